/- Part Ph of the proof. -/
import Derived.Test.YtcbcjolpdljbiaaGreatPg
import Derived.LaidEqlPtr
set_option maxRecDepth 100000
open Go.Proofs.YtcbcjolpdljbiaaGreat.T
open List renaming getD_eq_getElem?_getD -> aab, getElem?_eq_getElem -> aac, length_cons -> abU, getLast?_cons -> ajN, getElem?_eq_some_iff -> aad, getElem?_set_self -> aah, set_set -> af6, insertIdx_zero -> ajJ, insertIdx_succ_cons -> ag2, getElem?_eq_none -> aal, getElem?_map -> abD, map_set -> af7, getElem_mem -> abC, mem_of_getElem? -> aaf, getElem?_insertIdx -> ag7, getElem?_cons_zero -> ajG, getElem?_cons_succ -> agF, nodup_cons -> abB, mem_cons_of_mem -> aai, mem_cons_self -> aag, length_set -> aak, head?_eq_getElem? -> ahc, length_eraseIdx_of_lt -> ag8, getElem?_eraseIdx_of_ge -> abQ, getElem?_eraseIdx_of_lt -> abV, getLast?_eq_getElem? -> agp
open Nat renaming mod_eq_of_lt -> abZ
open Decidable renaming byContradiction -> abz
open Go.Proofs.Tryz renaming prog -> aaa
open Go.Proofs.Tryz
open Go.Value renaming int -> Dm
open Go.IntKind renaming i64 -> Dl, u64 -> Dj
namespace Go.Proofs.YtcbcjolpdljbiaaGreat
open Go Go.dC Go.Proofs.YtcbcjolpdljbiaaGreat.Cs
def cX (C:Cs)(l:FH):FJ:= [Dm Dj (hO C l.head?),Dm Dj (hO C l.getLast?),Dm Dl l.length]
theorem YP (C:Cs):∀l,(cX C l).length=3:=λ_=>rfl
def ij (b qb n:Nat):FJ:= [Dk b, .slice (some ⟨qb,0,none⟩) n n]
def qY (q b qb:Nat)(C:Cs)(Q:F7):F8:= [ag q 182 (ij b qb C.ae.length),ag qb 333 (Q.flatMap (cX C))]
def qi (c s:Nat):Nat:=c*3+(s-1)
theorem vp (s:Nat)(h:1<=s/\s<=3):aG aaa 260 [Dm Dl s] uT [] (λv H=>v= .bool true/\H= []):=by
 refine af func260 rfl ntmps260 rfl ?_;intro F _;refine bK ?_;refine zt 5 ?_;refine bs ?_;refine Rt [] results260 ?_;exact⟨by rw[Ac],rfl⟩
theorem MN (s:Nat)(h:¬(1<=s/\s<=3)):aG aaa 260 [Dm Dl s] uT [] (λv H=>v= .bool false/\H= []):=by
 refine af func260 rfl ntmps260 rfl ?_;intro F _;refine bK ?_;refine bJ (t:=5) rfl ?_ ?_
 ·intro h1
  replace h1:=aO h1;refine bs ?_;refine Rt [] results260 ?_;exact⟨by rw[Ab],rfl⟩
 intro h1;replace h1:=aO h1;refine bs ?_;refine Rt [] results260 ?_;exact⟨rfl,rfl⟩
theorem qh (q b qb n c s:Nat)(hc:c<n)(hn:n<=62)(h:1<=s/\s<=3):
  aG aaa 240 [Dk q,Dm Dl c,Dm Dl s] (In (ag q 182 (ij b qb n))) []
   (λv H=>v= .pointer (some ⟨qb,qi c s*3,none⟩)/\H= []):=by
 unfold ij;refine af func240 rfl ntmps240 rfl ?_;intro F hq;refine cV ?_;refine zf 9 ?_;refine cA ?_;refine zf 18 ?_;refine aw ?_;refine zl Aa (vp s h) .nil Di ?_;refine fX ?_;refine aA (t:=29) (v':=(Dm Dl (s-1:Nat))) rfl (by(congr 1;omega)) ?_;refine aw ?_;refine Li (Ia afQ) ?_;refine bq ?_;refine Rt [] results240 ?_;refine⟨?_,rfl⟩;unfold qi
 congr 3
 omega
def gz (A:By)(p:Nat):Nat:=rd A (p+45) 1
def ql (Q:F7)(i:Nat):FH:=Q.getD i []
def pv (l:FH):Nat->FK
 |0=>none
 |k+1=>l[k]?
structure iV (C:Cs)(Q:F7):Prop where
 len:Q.length=C.ae.length*3
 lv:∀i,∀p∈ql Q i,Live C p
 it:∀i,∀p∈ql Q i,gD C p
 st:∀i,∀p∈ql Q i,1<=gz C.A p/\gz C.A p<=3/\i=qi (C.cl p) (gz C.A p)
 nd:∀i,(ql Q i).Nodup
 l1:∀i k (h:k<(ql Q i).length),rd C.A ((ql Q i)[k]+4) 4=nO (pv (ql Q i) k)
 l2:∀i k (h:k<(ql Q i).length),rd C.A ((ql Q i)[k]+8) 4=nO (ql Q i)[k+1]?
theorem om{C:Cs}{Q:F7}{i j:Nat}{v:Value}(hi:i<Q.length)(hv:(cX C (ql Q i))[j]?=some v):(Q.flatMap (cX C))[i*3+j]?=some v:=
 bb (YP C) (by unfold ql;rw[aab,aac hi];rfl) hv
theorem mW{C:Cs}{Q:F7}(O:iV C Q){c s:Nat}(hc:c<C.ae.length)(h:1<=s/\s<=3):qi c s<Q.length:=by
 rw[O.len];unfold qi;omega
theorem Ub (q b qb n c s:Nat)(hc:c<n)(hn:n<=62)(h:¬(1<=s/\s<=3)):
  aG aaa 240 [Dk q,Dm Dl c,Dm Dl s] (In (ag q 182 (ij b qb n))) []
   (λv H=>v= .pointer none/\H= []):=by
 unfold ij;refine af func240 rfl ntmps240 rfl ?_;intro F hq;refine cV ?_;refine zf 9 ?_;refine cA ?_;refine zf 18 ?_;refine aw ?_;refine zl Aa (MN s h) .nil Di ?_;refine cA ?_;refine Rt [] results240 ?_;exact⟨rfl,rfl⟩
theorem sq (q b qb:Nat)(C:Cs)(K:Ok C)(p:Nat)(L:Live C p)(hk:kl C.A p≠0)(h:1<=gz C.A p/\gz C.A p<=3):
  aG aaa 222 [Dk q,Dm Dj (C.hd p)] (λh=>In (Cl b C) h/\In (ag q 182 (ij b qb C.ae.length)) h) []
   (λv H=>v= .pointer (some ⟨qb,qi (C.cl p) (gz C.A p)*3,none⟩)/\H= []):=by
 have hc:=(L.toAt.ba K).1;have hl:=K.toFix.l1;unfold gz at*;refine af func222 rfl ntmps222 rfl ?_;rintro F ⟨cQ,hq⟩;have K7:=hq;unfold ij at K7;refine cA ?_;refine zl Aa (vS b C K p L) .nil (λ_ le _=>In.mono cQ le) ?_;refine cK ?_;refine bd ?_;refine zl Aa (qP b C K p L hk) .nil (λ_ le _=>In.mono cQ le) ?_;refine rM ?_;refine zl Aa (qh q b qb C.ae.length (C.cl p) (rd C.A (p+45) 1) hc hl h) .nil (λ_ le _=>In.mono hq le) ?_;refine bq ?_;refine Rt [] results222 ?_;exact⟨rfl,rfl⟩
theorem IA (q b qb:Nat)(C:Cs)(K:Ok C)(p:Nat)(L:Live C p)(hk:kl C.A p≠0)(h:¬(1<=gz C.A p/\gz C.A p<=3)):
  aG aaa 222 [Dk q,Dm Dj (C.hd p)] (λh=>In (Cl b C) h/\In (ag q 182 (ij b qb C.ae.length)) h) []
   (λv H=>v= .pointer none/\H= []):=by
 have hc:=(L.toAt.ba K).1;have hl:=K.toFix.l1;unfold gz at*;refine af func222 rfl ntmps222 rfl ?_;rintro F ⟨cQ,hq⟩;have K7:=hq;unfold ij at K7;refine cA ?_;refine zl Aa (vS b C K p L) .nil (λ_ le _=>In.mono cQ le) ?_;refine cK ?_;refine bd ?_;refine zl Aa (qP b C K p L hk) .nil (λ_ le _=>In.mono cQ le) ?_;refine rM ?_;refine zl Aa (Ub q b qb C.ae.length (C.cl p) (rd C.A (p+45) 1) hc hl h) .nil (λ_ le _=>In.mono hq le) ?_;refine bq ?_;refine Rt [] results222 ?_;exact⟨rfl,rfl⟩
theorem tw (q b qb:Nat)(C:Cs)(K:Ok C)(Q:F7)(O:iV C Q)(c s:Nat)(hc:c<C.ae.length)(h:1<=s/\s<=3):
  aG aaa 170 [Dk q,Dm Dl c,Dm Dl s] (gG (qY q b qb C Q)) []
   (λv H=>v=Dm Dl ((ql Q (qi c s)).length)/\H= []):=by
 have hl:=K.toFix.l1;have k2:=om (C:=C) (Q:=Q) (j:=2) (mW O hc h) rfl;refine af func170 rfl ntmps170 rfl ?_;rintro F ⟨hq,hb,_⟩;refine bK ?_;refine zl Aa (qh q b qb C.ae.length c s hc hl h) .nil (λ_ le _=>In.mono hq le) ?_;refine rM ?_;refine Rt [] results170 ?_;exact⟨rfl,rfl⟩
theorem tO (q b qb:Nat)(C:Cs)(K:Ok C)(Q:F7)(O:iV C Q)(c s:Nat)(hc:c<C.ae.length)(h:1<=s/\s<=3):
  aG aaa 169 [Dk q,Dm Dl c,Dm Dl s] (gG (qY q b qb C Q)) []
   (λv H=>v= .tuple #[Dm Dj (hO C (ql Q (qi c s)).getLast?), .bool (ql Q (qi c s)).getLast?.isSome]/\H= []):=by
 have hl:=K.toFix.l1;have k1:=om (C:=C) (Q:=Q) (j:=1) (mW O hc h) rfl;have k2:=om (C:=C) (Q:=Q) (j:=2) (mW O hc h) rfl;rcases hz:ql Q (qi c s)with _|⟨a,l⟩
 ·rw[hz]at k1 k2
  refine af func169 rfl ntmps169 rfl ?_;rintro F ⟨hq,hb,_⟩;refine cV ?_;refine zl Aa (qh q b qb C.ae.length c s hc hl h) .nil (λ_ le _=>In.mono hq le) ?_;refine bK ?_;refine zf 15 ?_ (e:=by rfl);refine fX ?_;refine jT [] results169 ?_;exact⟨rfl,rfl⟩
 rw[hz]at k1 k2;refine af func169 rfl ntmps169 rfl ?_;rintro F ⟨hq,hb,_⟩;refine cV ?_;refine zl Aa (qh q b qb C.ae.length c s hc hl h) .nil (λ_ le _=>In.mono hq le) ?_;refine bK ?_;refine zf 15 ?_ (e:=by rfl);refine bK ?_;refine cN ?_ (e:=by exact decide_eq_false (by rw[abU];omega));refine bP ?_;refine jT [] results169 ?_;exact⟨by rw[ajN];rfl,rfl⟩
def KlO (C:Cs)(o:FK):Prop:=∀q,o=some q->kl C.A q≠0
def Ad (A:By)(o1 o2:FK):By:=
 let B:=match o1 with|none=>A|some a=>wr A (a+4*2) 4 (nO o2)
 match o2 with|none=>B|some e=>wr B (e+4*1) 4 (nO o1)
def rK (C:Cs)(cs:FJ)(i:Nat)(o1 o2:FK):FJ:=
 let ds:=match o1 with|none=>cs.set (i*3+0) (Dm Dj (hO C o2))|some _=>cs
 match o2 with|none=>ds.set (i*3+1) (Dm Dj (hO C o1))|some _=>ds
theorem yz (q b qb n:Nat)(C:Cs)(K:Ok C)(cs:FJ)(i:Nat)(hi:i*3+2<cs.length)(o1 o2:FK)(L1:di C o1)(L2:di C o2)(k1:KlO C o1)(k2:KlO C o2)(it:∀p,o2=some p->gD C p):
  aG aaa 267 [Dk q, .pointer (some ⟨qb,i*3,none⟩),Dm Dj (hO C o1),Dm Dj (hO C o2)] uT [Cl b C,ag q 182 (ij b qb n),ag qb 333 cs]
   (λv H=>v= .tuple #[]/\H= [Cl b (C.wA (Ad C.A o1 o2)),ag q 182 (ij b qb n),ag qb 333 (rK C cs i o1 o2)]):=by
 rcases o1 with _|a<;>rcases o2 with _|e
 ·unfold ij Ad rK
  refine af func267 rfl ntmps267 rfl ?_;intro F _;refine cK ?_;refine bc ?_;refine aD ?_;refine jU [Cl b C,ag q 182 (ij b qb n),ag qb 333 ((cs.set (i*3+0) (Dm Dj (0))).set (i*3+1) (Dm Dj (0)))] results267 ?_;exact⟨rfl,rfl⟩
 ·have M:=L2 e rfl
  obtain⟨m1,m2,m3,m4,m5,m6⟩:=bM K M.toAt;unfold ij Ad rK;rw[bZ];refine af func267 rfl ntmps267 rfl ?_;intro F _;refine rh ?_;refine cN ?_;refine bK ?_;refine zl Aa (ee b C K e 1 none M (k2 e rfl) (by omega) L1) (.cons .here .nil) Di ?_;refine aD ?_;refine jU [Cl b (C.wA (wr C.A (e+4*1) 4 (nO none))),ag q 182 (ij b qb n),ag qb 333 (cs.set (i*3+0) (Dm Dj (C.hd e)))] results267 ?_;exact⟨rfl,rfl⟩
 ·have M:=L1 a rfl
  obtain⟨m1,m2,m3,m4,m5,m6⟩:=bM K M.toAt;unfold ij Ad rK;rw[bZ];refine af func267 rfl ntmps267 rfl ?_;intro F _;refine bn ?_;refine cN ?_;refine bK ?_;refine zl Aa (ee b C K a 2 none M (k1 a rfl) (by omega) L2) (.cons .here .nil) Di ?_;refine dL ?_;refine aD ?_;refine jU [Cl b (C.wA (wr C.A (a+4*2) 4 (nO none))),ag q 182 (ij b qb n),ag qb 333 (cs.set (i*3+1) (Dm Dj (C.hd a)))] results267 ?_;exact⟨rfl,rfl⟩
 have M:=L1 a rfl;have N:=L2 e rfl;obtain⟨m1,m2,m3,m4,m5,m6⟩:=bM K M.toAt;obtain⟨u1,u2,u3,u4,u5,u6⟩:=bM K N.toAt;have kp:=xd K N.toAt M.toAt (it e rfl) (a:=4*2) (n:=4) (v:=nO (some e)) (by omega);unfold ij Ad rK;rw[bZ,bZ];refine af func267 rfl ntmps267 rfl ?_;intro F _;refine bn ?_;refine cN ?_;refine bK ?_;refine zl Aa (ee b C K a 2 (some e) M (k1 a rfl) (by omega) L2) (.cons .here .nil) Di ?_;refine bn ?_;refine cN ?_;refine bK ?_;refine zl Aa (ee b (C.wA (wr C.A (a+4*2) 4 (nO (some e)))) (K.wA _) e 1 (some a) (N.wA _) (λh=>k2 e rfl (by rw[<-kp.kl];exact h)) (by omega) (λq hq=>(L1 q hq).wA _)) (.cons .here .nil) Di ?_;refine aD ?_;refine jU [Cl b ((C.wA (wr C.A (a+4*2) 4 (nO (some e)))).wA (wr (wr C.A (a+4*2) 4 (nO (some e))) (e+4*1) 4 (nO (some a)))),ag q 182 (ij b qb n),ag qb 333 cs] results267 ?_;exact⟨rfl,rfl⟩
theorem Y5{C:Cs}(K:Ok C){p q:Nat}(L:At C p)(M:At C q)(I:gD C p)(v:Nat):Kept C (wr C.A (q+45) 1 v) p:=by
 have n1:=(L.ba K).2.1;have m1:=(M.ba K).2.1;have hf:=I.fits;have r:=λ(o w:Nat) (h1:o+w<=45\/46<=o) (h2:o+w<=C.sz (C.cl p))=>lK K L M (a:=45) (n:=1) (v:=v) (o:=o) (w:=w) (by omega) h2 (λ_=>by omega);have e1:kl (wr C.A (q+45) 1 v) p=kl C.A p:=r 44 1 (by omega) (by omega);have e2:vl (wr C.A (q+45) 1 v) p=vl C.A p:=r 48 4 (by omega) (by omega);refine⟨e1,e2, ?_,λJ=>⟨?_, ?_, ?_, ?_⟩⟩
 ·unfold aH
  rw[e1];exact JM K L M (by omega) (by omega) (λ_=>by omega)
 ·rw[cH,e1];exact J.k0
 ·rw[cH,e1,e2];exact J.fits
 ·rw[cH,r 16 8 (by omega) (by omega)];exact J.exp
 rw[cH,r 24 8 (by omega) (by omega)];exact J.tch
def gw (C:Cs)(o:FK):Prop:=∀q,o=some q->Live C q/\gD C q
theorem gw.lv{C:Cs}{o:FK}(h:gw C o):di C o:=λq e=>(h q e).1
theorem gw.kl{C:Cs}{o:FK}(h:gw C o):KlO C o:=λq e=>(h q e).2.k0
theorem gw.link{C:Cs}(K:Ok C){o:FK}(h:gw C o){p:Nat}(M:Live C p){a n v:Nat}(ha:a+n<=12):gw (C.wA (wr C.A (p+a) n v)) o:=
 λq e=>⟨(h q e).1.wA _,(xd K (h q e).1.toAt M.toAt (h q e).2 ha).it (h q e).2⟩
theorem gw.state{C:Cs}(K:Ok C){o:FK}(h:gw C o){p:Nat}(M:Live C p)(v:Nat):gw (C.wA (wr C.A (p+45) 1 v)) o:=
 λq e=>⟨(h q e).1.wA _,(Y5 K (h q e).1.toAt M.toAt (h q e).2 v).it (h q e).2⟩
theorem gw.join{C:Cs}(K:Ok C){o:FK}(h:gw C o){o1 o2:FK}(h1:gw C o1)(h2:gw C o2):gw (C.wA (Ad C.A o1 o2)) o:=by
 rcases o1 with _|a<;>rcases o2 with _|e
 ·exact h
 ·exact h.link K (h2 e rfl).1 (a:=4*1) (by omega)
 ·exact h.link K (h1 a rfl).1 (a:=4*2) (by omega)
 have g:=h.link K (h1 a rfl).1 (a:=4*2) (n:=4) (v:=nO (some e)) (by omega);exact g.link (K.wA _) ((h2 e rfl).1.wA _) (a:=4*1) (by omega)
def lH (A:By)(p s:Nat)(o1 o2:FK):By:=wr (wr (wr A (p+4*1) 4 (nO o1)) (p+4*2) 4 (nO o2)) (p+45) 1 s
def kU (A:By)(p s:Nat)(o1 o2:FK):By:=Ad (Ad (lH A p s o1 o2) o1 (some p)) (some p) o2
theorem JR (q b qb n m:Nat)(C:Cs)(K:Ok C)(cs:FJ)(i:Nat)(hi:i*3+2<cs.length)(p s:Nat)(hs:1<=s/\s<=3)(o1 o2:FK)(hp:gw C (some p))(h1:gw C o1)(h2:gw C o2)
  (hn:(rK C (rK C cs i o1 (some p)) i (some p) o2)[i*3+2]?=some (Dm Dl m)) (hl:(rK C (rK C cs i o1 (some p)) i (some p) o2).length=cs.length) (hl1:(rK C cs i o1 (some p)).length=cs.length) (hm:m<=1073741824):
  aG aaa 226 [Dk q, .pointer (some ⟨qb,i*3,none⟩),Dm Dj (C.hd p),Dm Dl s,Dm Dj (hO C o1),Dm Dj (hO C o2)] uT [Cl b C,ag q 182 (ij b qb n),ag qb 333 cs]
   (λv H=>v= .tuple #[]/\H= [Cl b (C.wA (kU C.A p s o1 o2)),ag q 182 (ij b qb n),ag qb 333 ((rK C (rK C cs i o1 (some p)) i (some p) o2).set (i*3+2) (Dm Dl (m+1:Nat)))]):=by
 have L:=(hp p rfl).1;have k0:=hp.kl p rfl;have g1:=hp.link K L (a:=4*1) (n:=4) (v:=nO o1) (by omega);have a1:=h1.link K L (a:=4*1) (n:=4) (v:=nO o1) (by omega);have b1:=h2.link K L (a:=4*1) (n:=4) (v:=nO o1) (by omega);have K1:=K.wA (wr C.A (p+4*1) 4 (nO o1));have g2:=g1.link K1 (g1 p rfl).1 (a:=4*2) (n:=4) (v:=nO o2) (by omega);have a2:=a1.link K1 (g1 p rfl).1 (a:=4*2) (n:=4) (v:=nO o2) (by omega);have b2:=b1.link K1 (g1 p rfl).1 (a:=4*2) (n:=4) (v:=nO o2) (by omega);have K2:=K.wA (wr (wr C.A (p+4*1) 4 (nO o1)) (p+4*2) 4 (nO o2));have g3:=g2.state K2 (g2 p rfl).1 s;have a3:=a2.state K2 (g2 p rfl).1 s;have b3:=b2.state K2 (g2 p rfl).1 s;have K3:=K.wA (lH C.A p s o1 o2);have g4:=g3.join K3 a3 g3;have b4:=b3.join K3 a3 g3;have K4:=K.wA (Ad (lH C.A p s o1 o2) o1 (some p));have j1:=yz q b qb n (C.wA (lH C.A p s o1 o2)) K3 cs i hi o1 (some p) a3.lv g3.lv a3.kl g3.kl (λu hu=>(g3 u hu).2);have j2:=yz q b qb n (C.wA (Ad (lH C.A p s o1 o2) o1 (some p))) K4 (rK C cs i o1 (some p)) i (by rw[hl1];exact hi) (some p) o2 g4.lv b4.lv g4.kl b4.kl (λu hu=>(b4 u hu).2);unfold ij at*;refine af func226 rfl ntmps226 rfl ?_;intro F _;refine bK ?_;refine zl Aa (ee b C K p 1 o1 L k0 (by omega) h1.lv) (.cons .here .nil) Di ?_;refine cV ?_;refine zl Aa (ee b (C.wA (wr C.A (p+4*1) 4 (nO o1))) K1 p 2 o2 (g1 p rfl).1 (g1.kl p rfl) (by omega) b1.lv) (.cons .here .nil) Di ?_;refine cV ?_;refine zl Aa (uj b (C.wA (wr (wr C.A (p+4*1) 4 (nO o1)) (p+4*2) 4 (nO o2))) K2 p s ⟨hs.1,by omega⟩ (g2 p rfl).1 (g2.kl p rfl)) (.cons .here .nil) Di ?_;refine bs ?_;refine zl Aa (j1) (.cons .here (.cons .here (.cons .here .nil))) Di ?_;refine bs ?_;refine zl Aa (j2) (.cons .here (.cons .here (.cons .here .nil))) Di ?_;refine Hh (H':= [Cl b (C.wA (kU C.A p s o1 o2)),ag q 182 [Dk b, .slice (some ⟨qb,0,none⟩) n n],ag qb 333 (rK C (rK C cs i o1 (some p)) i (some p) o2)]) ?_;generalize rK C (rK C cs i o1 (some p)) i (some p) o2=ds at hn hl⊢;have xy:i*3+2<ds.length:=by rw[hl];exact hi
 refine bB ?_;refine aD ?_;refine jU [Cl b (C.wA (kU C.A p s o1 o2)),ag q 182 [Dk b, .slice (some ⟨qb,0,none⟩) n n],ag qb 333 (ds.set (i*3+2) (Dm Dl ((m:Int)+1)))] results226 ?_;exact⟨rfl,rfl⟩
structure T3 where
 a:Value
 b:Value
 c:Value
def t3 (x:T3):FJ:= [x.a,x.b,x.c]
theorem x6:∀x,(t3 x).length=3:=λ_=>rfl
def K5 (C:Cs)(l:FH):T3:=⟨Dm Dj (hO C l.head?),Dm Dj (hO C l.getLast?),Dm Dl l.length⟩
theorem D9 (C:Cs)(Q:F7):Q.flatMap (cX C)=(Q.map (K5 C)).flatMap t3:=by
 rw[List.flatMap_map];rfl
def jnT (C:Cs)(x:T3)(o1 o2:FK):T3:=
 let y:T3:=match o1 with|none=>{x with a:=Dm Dj (hO C o2)}|some _=>x
 match o2 with|none=>{y with b:=Dm Dj (hO C o1)}|some _=>y
theorem Qw (C:Cs)(R:List T3)(i:Nat)(x:T3)(h:R[i]?=some x)(o1 o2:FK):rK C (R.flatMap t3) i o1 o2=(R.set i (jnT C x o1 o2)).flatMap t3:=by
 have hi:=(aad.1 h).1;have s0:∀(S:List T3) (y:T3) (v:Value),S[i]?=some y->(S.flatMap t3).set (i*3+0) v=(S.set i {y with a:=v}).flatMap t3:=λS y v hs=>bU x6 hs rfl (by decide);have s1:∀(S:List T3) (y:T3) (v:Value),S[i]?=some y->(S.flatMap t3).set (i*3+1) v=(S.set i {y with b:=v}).flatMap t3:=λS y v hs=>bU x6 hs rfl (by decide);have same:R.set i x=R:=by
  obtain⟨h1,h2⟩:=aad.1 h;rw[<-h2,List.set_getElem_self]
 rcases o1 with _|a<;>rcases o2 with _|e
 ·unfold rK jnT
  show((R.flatMap t3).set (i*3+0) _).set (i*3+1) _=_;rw[s0 R x _ h,s1 _ _ _ (aah hi),af6]
 ·exact s0 R x _ h
 ·exact s1 R x _ h
 unfold rK jnT;show R.flatMap t3=(R.set i x).flatMap t3;rw[same]
theorem we:∀(l:FH) (k p:Nat) (_:k<=l.length),(l.insertIdx k p).getLast?=if k=l.length then some p else l.getLast?
 | [],0,p,_=>rfl
 |a::l,0,p,_=>by
  rw[ajJ,List.getLast?_cons_cons,if_neg (by simp)]
 |a::l,k+1,p,h=>by
  rw[ag2,ajN,we l k p (by simpa using h),abU,ajN];by_cases e:k=l.length
  ·rw[if_pos e,if_pos (by omega)];rfl
  rw[if_neg e,if_neg (by omega)]
theorem UT (l:FH)(k p:Nat)(h:k<=l.length):(l.insertIdx k p).head?=if k=0 then some p else l.head?:=by
 rcases k with _|k
 ·simp
 rcases l with _|⟨a,l⟩
 ·simp at h
 simp
theorem adW (C:Cs)(l:FH)(k p:Nat)(h:k<=l.length):{jnT C (jnT C (K5 C l) (pv l k) (some p)) (some p) l[k]? with c:=Dm Dl (l.length+1:Nat)}=K5 C (l.insertIdx k p):=by
 unfold K5;rw[UT l k p h,we l k p h,List.length_insertIdx_of_le_length h];rcases k with _|k
 ·by_cases e:0<l.length
  ·rw[aac e,if_pos rfl,if_neg (by omega)];rfl
  rw[aal (by omega),if_pos rfl,if_pos (by omega)];rfl
 have e1:pv l (k+1)=some l[k]:=aac (by omega);by_cases e:k+1<l.length
 ·rw[e1,aac e,if_neg (by omega),if_neg (by omega)];rfl
 rw[e1,aal (by omega),if_neg (by omega),if_pos (by omega)];rfl
theorem A5 (C:Cs)(Q:F7)(i k p:Nat)(hi:i<Q.length)(h:k<=(ql Q i).length):
  (rK C (rK C (Q.flatMap (cX C)) i (pv (ql Q i) k) (some p)) i (some p) (ql Q i)[k]?).set (i*3+2) (Dm Dl ((ql Q i).length+1:Nat))=(Q.set i ((ql Q i).insertIdx k p)).flatMap (cX C):=by
 have hq:(Q.map (K5 C))[i]?=some (K5 C (ql Q i)):=by
  unfold ql;rw[abD,aab,aac hi];rfl
 have xy:i<(Q.map (K5 C)).length:=by simpa using hi
 have s2:∀(S:List T3) (y:T3) (v:Value),S[i]?=some y->(S.flatMap t3).set (i*3+2) v=(S.set i {y with c:=v}).flatMap t3:=λS y v hs=>bU x6 hs rfl (by decide);rw[D9,D9,Qw C _ i _ hq,Qw C _ i _ (aah xy),af6,s2 _ _ _ (aah xy),af6,adW C _ k p h,af7]
theorem Ua (q b qb:Nat)(C:Cs)(K:Ok C)(p j:Nat)(hj:j=1\/j=2)(o:FK)(L:Live C p)(hk:kl C.A p≠0)(h:1<=gz C.A p/\gz C.A p<=3)(ho:di C o)(hn:rd C.A (p+4*j) 4=nO o):
  aG aaa 171 [Dk q,Dm Dj (C.hd p),Dm Dl j] (λh=>In (Cl b C) h/\In (ag q 182 (ij b qb C.ae.length)) h) []
   (λv H=>v= .tuple #[Dm Dj (hO C o), .bool o.isSome]/\H= []):=by
 refine af func171 rfl ntmps171 rfl ?_;rintro F ⟨cQ,hq⟩;have K7:=hq;unfold ij at K7;refine cV ?_;refine zl Aa (sq q b qb C K p L hk h) .nil (λ_ le _=>⟨In.mono cQ le,In.mono hq le⟩) ?_;refine dL ?_;refine zl Aa (nt b C K p j o L hk (by omega) ho hn) .nil (λ_ le _=>In.mono cQ le) ?_;rcases o with _|e
 ·refine Li Mv ?_
  refine bB ?_;refine zf 26 ?_ (e:=by rfl);refine bP ?_;refine jT [] results171 ?_;exact⟨rfl,rfl⟩
 obtain⟨m1,m2,m3,m4,m5,m6⟩:=bM K (ho e rfl).toAt;rw[bZ];refine bP ?_;refine zf 26 ?_ (e:=by rfl);refine bc ?_;refine cN ?_;refine cV ?_;refine jT [] results171 ?_;exact⟨rfl,rfl⟩
theorem AS (q b qb:Nat)(C:Cs)(K:Ok C)(Q:F7)(O:iV C Q)(i k:Nat)(hk:k<(ql Q i).length):
  aG aaa 119 [Dk q,Dm Dj (C.hd (ql Q i)[k])] (λh=>In (Cl b C) h/\In (ag q 182 (ij b qb C.ae.length)) h) []
   (λv H=>v= .tuple #[Dm Dj (hO C (pv (ql Q i) k)), .bool (pv (ql Q i) k).isSome]/\H= []):=by
 have hp:=abC hk;have s:=O.st i _ hp;have ho:di C (pv (ql Q i) k):=λu hu=>by
  rcases k with _|k
  ·cases hu
  exact O.lv i u (aaf hu)
 refine af func119 rfl ntmps119 rfl ?_;rintro F ⟨cQ,hq⟩;refine bK ?_;refine zl Aa (Ua q b qb C K (ql Q i)[k] 1 (.inl rfl) (pv (ql Q i) k) (O.lv i _ hp) (O.it i _ hp).k0 ⟨s.1,s.2.1⟩ ho (O.l1 i k hk)) .nil (λ_ le _=>⟨In.mono cQ le,In.mono hq le⟩) ?_;refine bs ?_;refine jT [] results119 ?_;exact⟨rfl,rfl⟩
theorem EM (q b qb:Nat)(C:Cs)(K:Ok C)(p s:Nat)(hs:1<=s/\s<=3)(L:Live C p)(hk:kl C.A p≠0)(h:¬(1<=gz C.A p/\gz C.A p<=3)):
  aG aaa 224 [Dk q,Dm Dj (C.hd p),Dm Dl s] (λh=>In (Cl b C) h/\In (ag q 182 (ij b qb C.ae.length)) h) []
   (λv H=>v= .tuple #[.pointer (some ⟨qb,qi (C.cl p) s*3,none⟩),Dm Dl 0]/\H= []):=by
 have hc:=(L.toAt.ba K).1;have hl:=K.toFix.l1;refine af func224 rfl ntmps224 rfl ?_;rintro F ⟨cQ,hq⟩;have K7:=hq;unfold ij at K7;refine bK ?_;refine zl Aa (vp s hs) .nil Di ?_;refine bP ?_;refine zl Aa (wb b C K p L hk) .nil (λ_ le _=>In.mono cQ le) ?_;refine gJ ?_;refine zf 28 ?_ (e:=by rfl);refine bc ?_;refine cN ?_;refine bs ?_;refine zl Aa (IA q b qb C K p L hk h) .nil (λ_ le _=>⟨In.mono cQ le,In.mono hq le⟩) ?_;refine bP ?_;refine zl Aa (vS b C K p L) .nil (λ_ le _=>In.mono cQ le) ?_;refine cK ?_;refine zl Aa (qh q b qb C.ae.length (C.cl p) s hc hl hs) .nil (λ_ le _=>In.mono hq le) ?_;refine bc ?_;refine jT [] results224 ?_;exact⟨rfl,rfl⟩
theorem wZ{C:Cs}(K:Ok C){x q:Nat}(L:At C x)(M:At C q)(A:By){i j v:Nat}(hi:i<=2)(hj:j<=2)(hv:v<4294967296):rd (wr A (q+4*j) 4 v) (x+4*i) 4=if x=q/\i=j then v else rd A (x+4*i) 4:=by
 have n1:=(L.ba K).2.1;have m1:=(M.ba K).2.1;split
 ·next h=>
  obtain⟨rfl,rfl⟩:=h;rw[dz];exact abZ hv
 next h=>exact lK (C:=C.wA A) (K.wA A) (L.wA A) (M.wA A) (a:=4*j) (n:=4) (o:=4*i) (w:=4) (by show _<=C.sz (C.cl q);omega) (by show _<=C.sz (C.cl x);omega) (λe=>by
  have:i≠j:=λg=>h ⟨e,g⟩;omega)
theorem tN{C:Cs}(K:Ok C){x q:Nat}(L:At C x)(M:At C q)(A:By){i v:Nat}(hi:i<=2):rd (wr A (q+45) 1 v) (x+4*i) 4=rd A (x+4*i) 4:=by
 have n1:=(L.ba K).2.1;have m1:=(M.ba K).2.1;exact lK (C:=C.wA A) (K.wA A) (L.wA A) (M.wA A) (a:=45) (n:=1) (o:=4*i) (w:=4) (by show _<=C.sz (C.cl q);omega) (by show _<=C.sz (C.cl x);omega) (λ_=>by omega)
theorem JH{C:Cs}(K:Ok C){x q:Nat}(L:At C x)(M:At C q)(A:By){j v:Nat}(hj:j<=2):gz (wr A (q+4*j) 4 v) x=gz A x:=by
 have n1:=(L.ba K).2.1;have m1:=(M.ba K).2.1;exact lK (C:=C.wA A) (K.wA A) (L.wA A) (M.wA A) (a:=4*j) (n:=4) (o:=45) (w:=1) (by show _<=C.sz (C.cl q);omega) (by show _<=C.sz (C.cl x);omega) (λ_=>by omega)
theorem aat{C:Cs}(K:Ok C){x q:Nat}(L:At C x)(M:At C q)(A:By){v:Nat}(hv:v<256):gz (wr A (q+45) 1 v) x=if x=q then v else gz A x:=by
 have n1:=(L.ba K).2.1;have m1:=(M.ba K).2.1;split
 ·next h=>
  subst h;unfold gz;rw[dz];exact abZ (by rw[Nat.pow_one];exact hv)
 next h=>exact lK (C:=C.wA A) (K.wA A) (L.wA A) (M.wA A) (a:=45) (n:=1) (o:=45) (w:=1) (by show _<=C.sz (C.cl q);omega) (by show _<=C.sz (C.cl x);omega) (λe=>absurd e h)
theorem yG (A:By)(p s:Nat)(o1 o2:FK):kU A p s o1 o2=
  (match o2 with
   |none=>wr (wr (match o1 with|none=>lH A p s o1 o2|some a=>wr (lH A p s o1 o2) (a+4*2) 4 (nO (some p))) (p+4*1) 4 (nO o1)) (p+4*2) 4 (nO o2)
   |some e=>wr (wr (wr (match o1 with|none=>lH A p s o1 o2|some a=>wr (lH A p s o1 o2) (a+4*2) 4 (nO (some p))) (p+4*1) 4 (nO o1)) (p+4*2) 4 (nO o2)) (e+4*1) 4 (nO (some p))):=by
 rcases o1 with _|a<;>rcases o2 with _|e<;>rfl
theorem adY{C:Cs}(K:Ok C){x p s:Nat}{o1 o2:FK}(X:Live C x)(P:Live C p)(L1:di C o1)(L2:di C o2)(d2:o2≠some p):
  rd (kU C.A p s o1 o2) (x+4*1) 4=if x=p then nO o1 else if o2=some x then nO (some p)else rd C.A (x+4*1) 4:=by
 have b1:=o6 K L1;have b2:=o6 K L2;have bp:=o6 K (o:=some p) (λq hq=>by cases hq;exact P);have l:=λ(q:Nat) (M:Live C q) (A:By) (j v:Nat) (hj:j<=2) (hv:v<4294967296)=>wZ K X.toAt M.toAt A (i:=1) (j:=j) (v:=v) (by omega) hj hv;have z:=λ(A:By)=>tN K X.toAt P.toAt A (i:=1) (v:=s) (by omega);rw[yG];rcases o1 with _|a<;>rcases o2 with _|e<;>dsimp only<;>unfold lH
 ·rw[l p P _ 2 _ (by omega) b2,l p P _ 1 _ (by omega) b1,z,l p P _ 2 _ (by omega) b2,l p P _ 1 _ (by omega) b1]
  by_cases h:x=p<;>simp[h]
 ·have E:=L2 e rfl
  have ne:e≠p:=λh=>d2 (by rw[h]);rw[l e E _ 1 _ (by omega) bp,l p P _ 2 _ (by omega) b2,l p P _ 1 _ (by omega) b1,z,l p P _ 2 _ (by omega) b2,l p P _ 1 _ (by omega) b1];by_cases h:x=p
  ·subst h;simp[Ne.symm ne]
  by_cases g:x=e
  ·subst g;simp[h]
  have g2:¬e=x:=λu=>g u.symm;simp[h,g,g2]
 ·have A':=L1 a rfl
  rw[l p P _ 2 _ (by omega) b2,l p P _ 1 _ (by omega) b1,l a A' _ 2 _ (by omega) bp,z,l p P _ 2 _ (by omega) b2,l p P _ 1 _ (by omega) b1];by_cases h:x=p<;>simp[h]
 have A':=L1 a rfl;have E:=L2 e rfl;have ne:e≠p:=λh=>d2 (by rw[h]);rw[l e E _ 1 _ (by omega) bp,l p P _ 2 _ (by omega) b2,l p P _ 1 _ (by omega) b1,l a A' _ 2 _ (by omega) bp,z,l p P _ 2 _ (by omega) b2,l p P _ 1 _ (by omega) b1];by_cases h:x=p
 ·subst h;simp[Ne.symm ne]
 by_cases g:x=e
 ·subst g;simp[h]
 have g2:¬e=x:=λu=>g u.symm;simp[h,g,g2]
theorem adX{C:Cs}(K:Ok C){x p s:Nat}{o1 o2:FK}(X:Live C x)(P:Live C p)(L1:di C o1)(L2:di C o2)(d1:o1≠some p):
  rd (kU C.A p s o1 o2) (x+4*2) 4=if x=p then nO o2 else if o1=some x then nO (some p)else rd C.A (x+4*2) 4:=by
 have b1:=o6 K L1;have b2:=o6 K L2;have bp:=o6 K (o:=some p) (λq hq=>by cases hq;exact P);have l:=λ(q:Nat) (M:Live C q) (A:By) (j v:Nat) (hj:j<=2) (hv:v<4294967296)=>wZ K X.toAt M.toAt A (i:=2) (j:=j) (v:=v) (by omega) hj hv;have z:=λ(A:By)=>tN K X.toAt P.toAt A (i:=2) (v:=s) (by omega);rw[yG];rcases o1 with _|a<;>rcases o2 with _|e<;>dsimp only<;>unfold lH
 ·rw[l p P _ 2 _ (by omega) b2,l p P _ 1 _ (by omega) b1,z,l p P _ 2 _ (by omega) b2,l p P _ 1 _ (by omega) b1]
  by_cases h:x=p<;>simp[h]
 ·have E:=L2 e rfl
  rw[l e E _ 1 _ (by omega) bp,l p P _ 2 _ (by omega) b2,l p P _ 1 _ (by omega) b1,z,l p P _ 2 _ (by omega) b2,l p P _ 1 _ (by omega) b1];by_cases h:x=p<;>simp[h]
 ·have A':=L1 a rfl
  rw[l p P _ 2 _ (by omega) b2,l p P _ 1 _ (by omega) b1,l a A' _ 2 _ (by omega) bp,z,l p P _ 2 _ (by omega) b2,l p P _ 1 _ (by omega) b1];by_cases h:x=p
  ·simp[h]
  by_cases g:x=a
  ·subst g;simp[h]
  have g2:¬a=x:=λu=>g u.symm;simp[h,g,g2]
 have A':=L1 a rfl;have E:=L2 e rfl;rw[l e E _ 1 _ (by omega) bp,l p P _ 2 _ (by omega) b2,l p P _ 1 _ (by omega) b1,l a A' _ 2 _ (by omega) bp,z,l p P _ 2 _ (by omega) b2,l p P _ 1 _ (by omega) b1];by_cases h:x=p
 ·simp[h]
 by_cases g:x=a
 ·subst g;simp[h]
 have g2:¬a=x:=λu=>g u.symm;simp[h,g,g2]
theorem Rp{C:Cs}(K:Ok C){x p s:Nat}{o1 o2:FK}(X:Live C x)(P:Live C p)(L1:di C o1)(L2:di C o2)(hs:s<256):
  gz (kU C.A p s o1 o2) x=if x=p then s else gz C.A x:=by
 have l:=λ(q:Nat) (M:Live C q) (A:By) (j v:Nat) (hj:j<=2)=>JH K X.toAt M.toAt A (j:=j) (v:=v) hj;have z:=λ(A:By)=>aat K X.toAt P.toAt A (v:=s) hs;rw[yG];rcases o1 with _|a<;>rcases o2 with _|e<;>dsimp only<;>unfold lH
 ·rw[l p P _ 2 _ (by omega),l p P _ 1 _ (by omega),z,l p P _ 2 _ (by omega),l p P _ 1 _ (by omega)]
 ·rw[l e (L2 e rfl) _ 1 _ (by omega),l p P _ 2 _ (by omega),l p P _ 1 _ (by omega),z,l p P _ 2 _ (by omega),l p P _ 1 _ (by omega)]
 ·rw[l p P _ 2 _ (by omega),l p P _ 1 _ (by omega),l a (L1 a rfl) _ 2 _ (by omega),z,l p P _ 2 _ (by omega),l p P _ 1 _ (by omega)]
 rw[l e (L2 e rfl) _ 1 _ (by omega),l p P _ 2 _ (by omega),l p P _ 1 _ (by omega),l a (L1 a rfl) _ 2 _ (by omega),z,l p P _ 2 _ (by omega),l p P _ 1 _ (by omega)]
theorem fL{Q:F7}{i:Nat}(h:i<Q.length)(l:FH)(j:Nat):ql (Q.set i l) j=if j=i then l else ql Q j:=by
 unfold ql;split
 ·next e=>rw[e];exact mJ h l
 next e=>exact getD_set_ne (λg=>e g.symm) l
theorem J4{l:FH}{k p x:Nat}(h:k<=l.length)(hx:x∈l.insertIdx k p):x=p\/x∈l:=(List.mem_insertIdx h).1 hx
theorem adF (l:FH)(k p j:Nat)(h:k<=l.length)(hj:j<(l.insertIdx k p).length):pv (l.insertIdx k p) j=if j=0 then none else if j-1<k then l[j-1]? else if j-1=k then some p else l[j-2]?:=by
 rcases j with _|j
 ·rfl
 show(l.insertIdx k p)[j]?=_;rw[ag7,if_neg (show¬j+1=0 by omega),show j+1-1=j from rfl,show j+1-2=j-1 by omega];by_cases h1:j<k
 ·rw[if_pos h1,if_pos h1]
 rw[if_neg h1,if_neg h1];by_cases h2:j=k
 ·rw[if_pos h2,if_pos h2,if_pos (by omega)]
 rw[if_neg h2,if_neg h2]
theorem ML{C:Cs}(K:Ok C){p s:Nat}{o1 o2:FK}(hp:gw C (some p))(h1:gw C o1)(h2:gw C o2){o:FK}(h:gw C o):gw (C.wA (kU C.A p s o1 o2)) o:=by
 have L:=(hp p rfl).1;have s1:=λ{o:FK} (h:gw C o)=>h.link K L (a:=4*1) (n:=4) (v:=nO o1) (by omega);have K1:=K.wA (wr C.A (p+4*1) 4 (nO o1));have s2:=λ{o:FK} (h:gw C o)=>(s1 h).link K1 (s1 hp p rfl).1 (a:=4*2) (n:=4) (v:=nO o2) (by omega);have K2:=K.wA (wr (wr C.A (p+4*1) 4 (nO o1)) (p+4*2) 4 (nO o2));have s3:=λ{o:FK} (h:gw C o)=>(s2 h).state K2 (s2 hp p rfl).1 s;have K3:=K.wA (lH C.A p s o1 o2);have s4:=λ{o:FK} (h:gw C o)=>(s3 h).join K3 (s3 h1) (s3 hp);have K4:=K.wA (Ad (lH C.A p s o1 o2) o1 (some p));exact(s4 h).join K4 (s4 hp) (s4 h2)
theorem iC:∀{l:FH} {i j x:Nat},l.Nodup->l[i]?=some x->l[j]?=some x->i=j
 | [],i,j,x,_,h,_=>by simp at h
 |a::l,0,0,x,_,_,_=>rfl
 |a::l,0,j+1,x,nd,h,g=>by
  rw[ajG]at h;rw[agF]at g;cases h;exact absurd (aaf g) (abB.1 nd).1
 |a::l,i+1,0,x,nd,h,g=>by
  rw[ajG]at g;rw[agF]at h;cases g;exact absurd (aaf h) (abB.1 nd).1
 |a::l,i+1,j+1,x,nd,h,g=>by
  rw[agF]at h g;rw[iC (abB.1 nd).2 h g]
theorem Rf:∀{l:FH} {k p:Nat},k<=l.length->p∉l->l.Nodup->(l.insertIdx k p).Nodup
 |l,0,p,_,hp,nd=>by
  rw[ajJ];exact abB.2 ⟨hp,nd⟩
 | [],k+1,p,h,_,_=>by simp at h
 |a::l,k+1,p,h,hp,nd=>by
  rw[ag2];have h2:k<=l.length:=by simpa using h
  refine abB.2 ⟨λhm=> ?_,Rf h2 (λg=>hp (aai _ g)) (abB.1 nd).2⟩;rcases J4 h2 hm with e|e
  ·exact hp (by rw[<-e];exact aag)
  exact(abB.1 nd).1 e
theorem Ku{l:FH}{k p m x:Nat}(hk:k<=l.length)(h:(l.insertIdx k p)[m]?=some x):m<k/\l[m]?=some x\/m=k/\x=p\/k<m/\l[m-1]?=some x:=by
 rw[ag7]at h;by_cases h1:m<k
 ·rw[if_pos h1]at h;exact .inl ⟨h1,h⟩
 rw[if_neg h1]at h;by_cases h2:m=k
 ·rw[if_pos h2,if_pos (by omega)]at h
  cases h;exact .inr (.inl ⟨h2,rfl⟩)
 rw[if_neg h2]at h;exact .inr (.inr ⟨by omega,h⟩)
theorem Y6{l:FH}{k p m:Nat}(hk:k<=l.length):(l.insertIdx k p)[m]?=if m<k then l[m]? else if m=k then some p else l[m-1]?:=by
 rw[ag7];by_cases h1:m<k
 ·rw[if_pos h1,if_pos h1]
 rw[if_neg h1,if_neg h1];by_cases h2:m=k
 ·rw[if_pos h2,if_pos h2,if_pos (by omega)]
 rw[if_neg h2,if_neg h2]
theorem iV.m1{C:Cs}{Q:F7}(O:iV C Q){i k x:Nat}(h:(ql Q i)[k]?=some x):rd C.A (x+4) 4=nO (pv (ql Q i) k):=by
 obtain⟨h1,h2⟩:=aad.1 h;rw[<-h2];exact O.l1 i k h1
theorem iV.m2{C:Cs}{Q:F7}(O:iV C Q){i k x:Nat}(h:(ql Q i)[k]?=some x):rd C.A (x+8) 4=nO (ql Q i)[k+1]?:=by
 obtain⟨h1,h2⟩:=aad.1 h;rw[<-h2];exact O.l2 i k h1
theorem pZ{l:FH}{k x:Nat}(h:pv l k=some x):x∈l:=by
 rcases k with _|k
 ·cases h
 exact aaf h
theorem iV.Gq{C:Cs}{Q:F7}(O:iV C Q){i:Nat}{o:FK}(h:∀x,o=some x->x∈ql Q i):gw C o:=λx hx=>⟨O.lv i x (h x hx),O.it i x (h x hx)⟩
theorem iV.one{C:Cs}{Q:F7}(O:iV C Q){i j x:Nat}(h:x∈ql Q i)(g:x∈ql Q j):i=j:=by
 rw[(O.st i x h).2.2,(O.st j x g).2.2]
theorem Rq{C:Cs}(K:Ok C){Q:F7}(O:iV C Q){p s k i:Nat}(ei:i=qi (C.cl p) s)(hi:i<Q.length)(hs:1<=s/\s<=3)(hk:k<=(ql Q i).length)(P:gw C (some p))(hn:¬(1<=gz C.A p/\gz C.A p<=3)):
  iV (C.wA (kU C.A p s (pv (ql Q i) k) (ql Q i)[k]?)) (Q.set i ((ql Q i).insertIdx k p)):=by
 have no:∀j,p∉ql Q j:=λj h=>hn ⟨(O.st j p h).1,(O.st j p h).2.1⟩;have LP:=(P p rfl).1;have I1:gw C (pv (ql Q i) k):=O.Gq λx hx=>pZ hx;have I2:gw C (ql Q i)[k]?:=O.Gq λx hx=>aaf hx;have d1:pv (ql Q i) k≠some p:=λh=>no i (pZ h);have d2:(ql Q i)[k]?≠some p:=λh=>no i (aaf h);have hm:∀j x,x∈ql (Q.set i ((ql Q i).insertIdx k p)) j->j=i/\x=p\/x≠p/\x∈ql Q j:=λj x hx=>by
  rw[fL hi]at hx;split at hx
  ·next e=>
   rcases J4 hk hx with g|g
   ·exact .inl ⟨e,g⟩
   exact .inr ⟨λz=>no i (by rw[<-z];exact g),by rw[e];exact g⟩
  next e=>exact .inr ⟨λz=>no j (by rw[<-z];exact hx),hx⟩
 have WN:∀j x,x∈ql (Q.set i ((ql Q i).insertIdx k p)) j->gw C (some x):=λj x hx y hy=>by
  cases hy;rcases hm j _ hx with⟨_,rfl⟩|⟨_,h⟩
  ·exact P _ rfl
  exact⟨O.lv j _ h,O.it j _ h⟩
 have kp:=λj x hx=>ML K (s:=s) P I1 I2 (WN j x hx);refine⟨?_,λj x hx=>(kp j x hx x rfl).1,λj x hx=>(kp j x hx x rfl).2,λj x hx=> ?_,λj=> ?_,λj m h=> ?_,λj m h=> ?_⟩
 ·rw[aak];exact O.len
 ·show 1<=gz (kU _ _ _ _ _) x/\_/\j=qi (C.cl x) _
  rw[cH,Rp K (WN j x hx x rfl).1 LP I1.lv I2.lv (by omega)];rcases hm j x hx with⟨rfl,rfl⟩|⟨h1,h2⟩
  ·rw[if_pos rfl];exact⟨hs.1,hs.2,ei⟩
  rw[if_neg h1];exact O.st j x h2
 ·rw[fL hi]
  split
  ·exact Rf hk (no i) (O.nd i)
  exact O.nd j
 ·have hx:(ql (Q.set i ((ql Q i).insertIdx k p)) j)[m]?=some (ql (Q.set i ((ql Q i).insertIdx k p)) j)[m]:=aac h
  generalize (ql (Q.set i ((ql Q i).insertIdx k p)) j)[m]=x at hx⊢;have Gu:=aaf hx;have r:=adY K (s:=s) (WN j x Gu x rfl).1 LP I1.lv I2.lv d2;rw[cH];refine r.trans ?_;rw[fL hi]at hx⊢;split at hx
  ·next e=>
   subst e;rw[if_pos rfl];have hml:m<((ql Q j).insertIdx k p).length:=(aad.1 hx).1;rw[adF _ _ _ _ hk hml];rcases Ku hk hx with⟨h1,h2⟩|⟨h1,h2⟩|⟨h1,h2⟩
   ·have g1:x≠p:=λz=>no j (by rw[<-z];exact aaf h2)
    have g2:(ql Q j)[k]?≠some x:=λz=>by have:=iC (O.nd j) z h2;omega
    rw[if_neg g1,if_neg g2,O.m1 h2];rcases m with _|m
    ·rfl
    rw[if_neg (by omega),if_pos (by omega)];rfl
   ·rw[if_pos h2]
    subst h1;rcases m with _|m
    ·rfl
    rw[if_neg (by omega),if_pos (by omega)];rfl
   have g1:x≠p:=λz=>no j (by rw[<-z];exact aaf h2);rw[if_neg g1,if_neg (show¬m=0 by omega),if_neg (show¬m-1<k by omega)];by_cases g:m-1=k
   ·rw[if_pos g,if_pos (by rw[<-g];exact h2)]
   have g2:(ql Q j)[k]?≠some x:=λz=>by have:=iC (O.nd j) z h2;omega
   rw[if_neg g2,if_neg g,O.m1 h2];obtain⟨u,rfl⟩:∃u,m=u+2:=⟨m-2,by omega⟩;rfl
  next e=>
  rw[if_neg e];have hj:=aaf hx;have g1:x≠p:=λz=>no j (by rw[<-z];exact hj);have g2:(ql Q i)[k]?≠some x:=λz=>e (O.one hj (aaf z));rw[if_neg g1,if_neg g2,O.m1 hx]
 have hx:(ql (Q.set i ((ql Q i).insertIdx k p)) j)[m]?=some (ql (Q.set i ((ql Q i).insertIdx k p)) j)[m]:=aac h;generalize (ql (Q.set i ((ql Q i).insertIdx k p)) j)[m]=x at hx⊢;have Gu:=aaf hx;have r:=adX K (s:=s) (WN j x Gu x rfl).1 LP I1.lv I2.lv d1;rw[cH];refine r.trans ?_;rw[fL hi]at hx⊢;split at hx
 ·next e=>
  subst e;rw[if_pos rfl,Y6 hk];rcases Ku hk hx with⟨h1,h2⟩|⟨h1,h2⟩|⟨h1,h2⟩
  ·have g1:x≠p:=λz=>no j (by rw[<-z];exact aaf h2)
   rw[if_neg g1];by_cases g:m+1=k
   ·subst g
    rw[if_pos (show pv (ql Q j) (m+1)=some x from h2),if_neg (by omega),if_pos rfl]
   have g2:pv (ql Q j) k≠some x:=λz=>by
    rcases k with _|k
    ·omega
    have:=iC (O.nd j) z h2;omega
   rw[if_neg g2,if_pos (by omega),O.m2 h2]
  ·rw[if_pos h2,if_neg (by omega),if_neg (by omega),show m+1-1=k by omega]
  have g1:x≠p:=λz=>no j (by rw[<-z];exact aaf h2);have g2:pv (ql Q j) k≠some x:=λz=>by
    rcases k with _|k
    ·cases z
    have:=iC (O.nd j) z h2;omega
  rw[if_neg g1,if_neg g2,if_neg (by omega),if_neg (by omega),O.m2 h2,show m-1+1=m+1-1 by omega]
 next e=>
 rw[if_neg e];have hj:=aaf hx;have g1:x≠p:=λz=>no j (by rw[<-z];exact hj);have g2:pv (ql Q i) k≠some x:=λz=>e (O.one hj (pZ z));rw[if_neg g1,if_neg g2,O.m2 hx]
def cZ (C:Cs)(A B:By)(S:Nat->Nat->Prop):Prop:=∀i,B i≠A i->∃q o,At C q/\o<C.sz (C.cl q)/\S q o/\i=q+o
theorem cZ.refl (C:Cs)(A:By)(S:Nat->Nat->Prop):cZ C A A S:=λ_ h=>absurd rfl h
theorem cZ.trans{C:Cs}{A B D:By}{S:Nat->Nat->Prop}(h:cZ C A B S)(g:cZ C B D S):cZ C A D S:=λi e=>by
 by_cases hb:B i=A i
 ·exact g i (by rw[hb];exact e)
 exact h i hb
theorem cZ.mono{C:Cs}{A B:By}{S R:Nat->Nat->Prop}(h:cZ C A B S)(s:∀q o,S q o->R q o):cZ C A B R:=λi e=>by
 obtain⟨q,o,h1,h2,h3,h4⟩:=h i e;exact⟨q,o,h1,h2,s q o h3,h4⟩
theorem cZ.wA{C:Cs}{A B D:By}{S:Nat->Nat->Prop}(h:cZ (C.wA D) A B S):cZ C A B S:=λi e=>by
 obtain⟨q,o,h1,h2,h3,h4⟩:=h i e;exact⟨q,o,⟨h1.i,h1.own,h1.al,h1.k⟩,h2,h3,h4⟩
theorem xE{C:Cs}(A:By){S:Nat->Nat->Prop}{q a n v:Nat}(M:At C q)(ha:a+n<=C.sz (C.cl q))(h:∀j,a<=j->j<a+n->S q j):cZ C A (wr A (q+a) n v) S:=λi e=>by
 have hr:q+a<=i/\i<q+a+n:=by
  refine abz λg=>e ?_;unfold wr;exact gy _ _ _ _ (by rw[mH];omega)
 exact⟨q,i-q,M,by omega,h _ (by omega) (by omega),by omega⟩
theorem vQ{C:Cs}{A B:By}{S:FH}{a n:Nat}(d:ry A B S a n)(hS:∀q∈S,At C q)(ha:∀q∈S,a+n<=C.sz (C.cl q)):cZ C A B (λq o=>q∈S/\a<=o/\o<a+n):=λi e=>by
 obtain⟨q,q1,q2,q3⟩:=d i e;have:=ha q q1;exact⟨q,i-q,hS q q1,by omega,⟨q1,by omega,by omega⟩,by omega⟩
theorem vT{C:Cs}(K:Ok C){A B:By}{S:Nat->Nat->Prop}(d:cZ C A B S){p o w:Nat}(L:At C p)(ho:o+w<=C.sz (C.cl p))(h:∀j,o<=j->j<o+w->¬S p j):jS B (p+o) w=jS A (p+o) w:=
 ve λi h1 h2=>by
  refine abz λe=> ?_;obtain⟨q,j,q1,q2,q3,q4⟩:=d i e;by_cases e2:p=q
  ·subst e2
   exact h j (by omega) (by omega) q3
  ·rcases apart K L q1 e2 with g|g<;>omega
theorem kX{C:Cs}(K:Ok C){A B:By}{S:Nat->Nat->Prop}(d:cZ C A B S){p o w:Nat}(L:At C p)(ho:o+w<=C.sz (C.cl p))(h:∀j,o<=j->j<o+w->¬S p j):rd B (p+o) w=rd A (p+o) w:=by
 unfold rd;rw[vT K d L ho h]
def mh (o:Nat):Prop:=o<16\/32<=o/\o<44\/o=45\/o=46
theorem sf{C:Cs}(K:Ok C){B:By}{S:Nat->Nat->Prop}(d:cZ C C.A B S){p:Nat}(L:At C p)(I:gD C p)(h:∀j,S p j->mh j):Kept C B p:=by
 have n1:=(L.ba K).2.1;have hf:=I.fits;have r:=λ(o w:Nat) (h2:o+w<=C.sz (C.cl p)) (h3:∀j,o<=j->j<o+w->¬mh j)=>kX K d L h2 (λj g1 g2 s=>h3 j g1 g2 (h j s));have e1:kl B p=kl C.A p:=r 44 1 (by omega) (λj g1 g2=>by unfold mh;omega);have e2:vl B p=vl C.A p:=r 48 4 (by omega) (λj g1 g2=>by unfold mh;omega);refine⟨e1,e2, ?_,λJ=>⟨?_, ?_, ?_, ?_⟩⟩
 ·unfold aH
  rw[e1];exact vT K d L (by omega) (λj g1 g2 s=>by have:=h j s;unfold mh at this;omega)
 ·rw[cH,e1];exact J.k0
 ·rw[cH,e1,e2];exact J.fits
 ·rw[cH,r 16 8 (by omega) (λj g1 g2=>by unfold mh;omega)];exact J.exp
 rw[cH,r 24 8 (by omega) (λj g1 g2=>by unfold mh;omega)];exact J.tch
theorem aaG{C:Cs}(K:Ok C){B:By}{S:Nat->Nat->Prop}(d:cZ C C.A B S):∀{l:FH},(∀p∈l,At C p/\∀j,j<4->¬S p j)->GB C.A l->GB B l
 | [],_,_=>trivial
 |p::l,h,g=>by
  obtain⟨L,hp⟩:=h p aag;refine⟨?_,aaG K d (λq hq=>h q (aai _ hq)) g.2⟩;have:=kX K d L (o:=0) (w:=4) (by have:=(L.ba K).2.1;omega) (λj _ g2=>hp j (by omega));rw[<-g.1];exact this
theorem GD{C:Cs}(K:Ok C){W:Tb}(O:dt C W){B:By}{S:Nat->Nat->Prop}(d:cZ C C.A B S)(h:∀p∈W.all,∀j,S p j->mh j/\4<=j):dt (C.wA B) W:=by
 have kp:=λp (hp:p∈W.all)=>sf K d (O.lv p hp).toAt (O.it p hp) (λj s=>(h p hp j s).1);refine⟨O.pw,O.po,O.st,O.mp,O.sz,O.PG,O.sm,O.mv,O.n,O.nd,λx=> ?_,λp hp=>(O.lv p hp).wA B,λp hp=>(kp p hp).it (O.it p hp),λx p hp=> ?_,λp hp q hq e=> ?_⟩
 ·refine aaG K d (λp hp=> ?_) (O.li x)
  have dD:=Tb.gM hp;exact⟨(O.lv p dD).toAt,λj hj s=>by have:=(h p dD j s).2;omega⟩
 ·show W.bk (cn (aH B p))=x
  rw[(kp p (Tb.gM hp)).key];exact O.bu x p hp
 change aH B p=aH B q at e;rw[(kp p hp).key,(kp q hq).key]at e;exact O.kd p hp q hq e
theorem Lw{C:Cs}(K:Ok C){Q:F7}(O:iV C Q){B:By}{S:Nat->Nat->Prop}(d:cZ C C.A B S)(h:∀i,∀p∈ql Q i,∀j,S p j->mh j/\(j<4\/12<=j)/\j≠45):iV (C.wA B) Q:=by
 have kp:=λi p (hp:p∈ql Q i)=>sf K d (O.lv i p hp).toAt (O.it i p hp) (λj s=>(h i p hp j s).1);have n1:=λi p (hp:p∈ql Q i)=>((O.lv i p hp).toAt.ba K).2.1;refine⟨O.len,λi p hp=>(O.lv i p hp).wA B,λi p hp=>(kp i p hp).it (O.it i p hp),λi p hp=> ?_,O.nd,λi k hk=> ?_,λi k hk=> ?_⟩
 ·have:=n1 i p hp
  have e:gz B p=gz C.A p:=kX K d (O.lv i p hp).toAt (by omega) (λj g1 g2 s=>(h i p hp j s).2.2 (by omega));show 1<=gz B p/\_;rw[cH,e];exact O.st i p hp
 ·have hp:=abC hk
  have:=n1 i _ hp;rw[cH,kX K d (O.lv i _ hp).toAt (by omega) (λj g1 g2 s=>by have:=(h i _ hp j s).2.1;omega)];exact O.l1 i k hk
 have hp:=abC hk;have:=n1 i _ hp;rw[cH,kX K d (O.lv i _ hp).toAt (by omega) (λj g1 g2 s=>by have:=(h i _ hp j s).2.1;omega)];exact O.l2 i k hk
def SQ (p:Nat)(_q o:Nat):Prop:=4<=o/\o<12\/o=45/\_q=p
theorem Xf{C:Cs}(K:Ok C)(A:By){S:Nat->Nat->Prop}(hS:∀q o,4<=o->o<12->S q o){o1 o2:FK}(L1:di C o1)(L2:di C o2):cZ C A (Ad A o1 o2) S:=by
 have w:=λ(A:By) (q:Nat) (M:Live C q) (j v:Nat) (hj:1<=j/\j<=2)=>xE (S:=S) A (a:=4*j) (n:=4) (v:=v) M.toAt (by have:=(M.toAt.ba K).2.1;omega) (λi g1 g2=>hS q i (by omega) (by omega));rcases o1 with _|a<;>rcases o2 with _|e
 ·exact cZ.refl _ _ _
 ·exact w A e (L2 e rfl) 1 _ (by omega)
 ·exact w A a (L1 a rfl) 2 _ (by omega)
 exact(w A a (L1 a rfl) 2 _ (by omega)).trans (w _ e (L2 e rfl) 1 _ (by omega))
theorem aaI{C:Cs}(K:Ok C){p s:Nat}(L:Live C p){o1 o2:FK}(L1:di C o1)(L2:di C o2):cZ C C.A (kU C.A p s o1 o2) (SQ p):=by
 have n1:=(L.toAt.ba K).2.1;have w:=λ(A:By) (j v:Nat) (hj:1<=j/\j<=2)=>xE (S:=SQ p) A (a:=4*j) (n:=4) (v:=v) L.toAt (by omega) (λi g1 g2=> .inl ⟨by omega,by omega⟩);have w2:=λ(A:By) (v:Nat)=>xE (S:=SQ p) A (a:=45) (n:=1) (v:=v) L.toAt (by omega) (λi g1 g2=> .inr ⟨by omega,rfl⟩);have hp:di C (some p):=λq h=>by cases h;exact L
 have hS:∀q o,4<=o->o<12->SQ p q o:=λq o h1 h2=> .inl ⟨h1,h2⟩;have d1:cZ C C.A (lH C.A p s o1 o2) (SQ p):=((w C.A 1 (nO o1) (by omega)).trans (w _ 2 (nO o2) (by omega))).trans (w2 _ s);exact(d1.trans (Xf K _ hS L1 hp)).trans (Xf K _ hS hp L2)
theorem ow (C:Cs)(cs:FJ)(i:Nat)(o1 o2:FK):(rK C cs i o1 o2).length=cs.length:=by
 rcases o1 with _|a<;>rcases o2 with _|e<;>simp[rK]
theorem Eb (C:Cs)(cs:FJ)(i:Nat)(o1 o2:FK):(rK C cs i o1 o2)[i*3+2]?=cs[i*3+2]?:=by
 rcases o1 with _|a<;>rcases o2 with _|e<;>simp[rK,List.getElem?_set]
theorem xF{C:Cs}(K:Ok C){Q:F7}(O:iV C Q)(i:Nat):(ql Q i).length<=1073741824:=
 nC _ _ (O.nd i) λp hp=>by
  have h:=(O.lv i p hp).toAt.ba K;have:=fU K.toFix;omega
theorem Hc (C:Cs)(Q:F7):(Q.flatMap (cX C)).length=Q.length*3:=by
 rw[D9];induction Q with
 |nil=>rfl
 |cons a l ih=>rw[List.map_cons,List.flatMap_cons,List.length_append,ih,x6,abU];omega
structure acx (C:Cs)(p:Nat)(A:By)(Q:F7):Prop where
 o:iV (C.wA A) Q
 d:cZ C C.A A (SQ p)
theorem EL (q b qb:Nat)(C:Cs)(K:Ok C)(Q:F7)(O:iV C Q)(p s:Nat)(hs:1<=s/\s<=3)(P:gw C (some p))(hn:¬(1<=gz C.A p/\gz C.A p<=3)):
  aG aaa 252 [Dk q,Dm Dj (C.hd p),Dm Dl s] (λ_=>True) (Cl b C::qY q b qb C Q)
   (λv H=>v=Dm Dl 0/\∃A,H=Cl b (C.wA A)::qY q b qb (C.wA A) (Q.set (qi (C.cl p) s) (p::ql Q (qi (C.cl p) s)))/\acx C p A (Q.set (qi (C.cl p) s) (p::ql Q (qi (C.cl p) s)))):=by
 have L:=(P p rfl).1;have k0:=P.kl p rfl;have hc:=(L.toAt.ba K).1;have hi:=mW O hc hs;generalize hii:qi (C.cl p) s=i at*;have I2:gw C (ql Q i)[0]?:=O.Gq λx hx=>aaf hx;have I1:gw C none:=λx hx=>by cases hx
 have ok:=Rq K O hii.symm hi hs (k:=0) (by omega) P hn;have ce:=A5 C Q i 0 p hi (by omega);have hlen:=Hc C Q;have k0c:=om (C:=C) (Q:=Q) (j:=0) hi rfl;have k2c:=om (C:=C) (Q:=Q) (j:=2) hi rfl;have d:=aaI K (p:=p) (s:=s) L I1.lv I2.lv;have lay:=JR q b qb C.ae.length (ql Q i).length C K (Q.flatMap (cX C)) i (by omega) p s hs none (ql Q i)[0]? P I1 I2 (by rw[Eb,Eb];exact k2c) (by rw[ow,ow]) (ow _ _ _ _ _) (xF K O i);have e0:(ql Q i).head?=(ql Q i)[0]?:=ahc ..;rw[e0]at k0c;change iV (C.wA (kU C.A p s none (ql Q i)[0]?)) _ at ok;rw[ajJ]at ok ce;change((rK C (rK C (Q.flatMap (cX C)) i none (some p)) i (some p) (ql Q i)[0]?).set (i*3+2) _)=_ at ce;rw[ce]at lay;unfold qY;generalize gS:Q.flatMap (cX C)=cs at*;unfold ij at*;refine af func252 rfl ntmps252 rfl ?_;intro F _;refine bK ?_;refine zl Aa (EM q b qb C K p s hs L k0 hn) .nil (λ_ le ak=>⟨ak.1,ak.2.1⟩) ?_;rw[hii];refine cK ?_;refine aw ?_;refine zl Aa (lay) (.cons .here (.cons .here (.cons .here .nil))) Di ?_;refine bs ?_;refine Rt [Cl b (C.wA (kU C.A p s none (ql Q i)[0]?)),ag q 182 [Dk b, .slice (some ⟨qb,0,none⟩) C.ae.length C.ae.length],ag qb 333 ((Q.set i (p::ql Q i)).flatMap (cX C))] results252 ?_;exact⟨rfl,kU C.A p s none (ql Q i)[0]?,rfl,ok,d⟩
theorem mY{C:Cs}(K:Ok C){B:By}{S:Nat->Nat->Prop}(d:cZ C C.A B S){o:FK}(P:gw C o)(h:∀x,o=some x->∀j,S x j->mh j):gw (C.wA B) o:=λx hx=>
 ⟨(P x hx).1.wA B,(sf K d (P x hx).1.toAt (P x hx).2 (h x hx)).it (P x hx).2⟩
theorem SQ.nX{p q o:Nat}(h:SQ p q o):mh o:=by
 unfold SQ at h;unfold mh;omega
def qa (A:By)(p:Nat):By:=wr (wr (wr A (p+4*1) 4 (nO none)) (p+4*2) 4 (nO none)) (p+45) 1 4
theorem IT (C:Cs)(Q:F7)(i k:Nat)(hi:i<Q.length)(h:k<(ql Q i).length):
  (rK C (Q.flatMap (cX C)) i (pv (ql Q i) k) (ql Q i)[k+1]?).set (i*3+2) (Dm Dl (((ql Q i).length:Int)-1))=(Q.set i ((ql Q i).eraseIdx k)).flatMap (cX C):=by
 have hq:(Q.map (K5 C))[i]?=some (K5 C (ql Q i)):=by
  unfold ql;rw[abD,aab,aac hi];rfl
 have xy:i<(Q.map (K5 C)).length:=by simpa using hi
 have s2:∀(S:List T3) (y:T3) (v:Value),S[i]?=some y->(S.flatMap t3).set (i*3+2) v=(S.set i {y with c:=v}).flatMap t3:=λS y v hs=>bU x6 hs rfl (by decide);generalize hl:ql Q i=l at*;have e:{jnT C (K5 C l) (pv l k) l[k+1]? with c:=Dm Dl ((l.length:Int)-1)}=K5 C (l.eraseIdx k):=by
  have hlen:=ag8 h;have h1:(l.eraseIdx k).head?=if k=0 then l[k+1]? else l.head?:=by
   rw[ahc,ahc];split
   ·next e=>subst e;rw[abQ (by omega)]
   next e=>rw[abV (by omega)]
  have h2:(l.eraseIdx k).getLast?=if k+1=l.length then pv l k else l.getLast?:=by
   rw[agp,agp,hlen];split
   ·next e=>
    rcases k with _|k
    ·rw[aal (by omega)];rfl
    rw[abV (by omega),show l.length-1-1=k by omega];rfl
   next e=>rw[abQ (by omega),show l.length-1-1+1=l.length-1 by omega]
  unfold K5;rw[h1,h2,hlen,show(((l.length-1:Nat)):Int)=(l.length:Int)-1 by omega];rcases k with _|k
  ·by_cases e:0+1<l.length
   ·rw[aac e,if_pos rfl,if_neg (by omega)];rfl
   rw[aal (by omega),if_pos rfl,if_pos (by omega)];rfl
  have e1:pv l (k+1)=some l[k]:=aac (by omega);by_cases e:k+1+1<l.length
  ·rw[e1,aac e,if_neg (by omega),if_neg (by omega)];rfl
  rw[e1,aal (by omega),if_neg (by omega),if_pos (by omega)];rfl
 rw[D9,D9,Qw C _ i _ hq,s2 _ _ _ (aah xy),af6,e,af7]
def mG (A:By)(p:Nat)(o1 o2:FK):By:=qa (Ad A o1 o2) p
theorem ZD{C:Cs}(K:Ok C){x p:Nat}{o1 o2:FK}(X:Live C x)(P:Live C p)(L1:di C o1)(L2:di C o2):
  rd (mG C.A p o1 o2) (x+4*1) 4=if x=p then 0 else if o2=some x then nO o1 else rd C.A (x+4*1) 4:=by
 have b1:=o6 K L1;have b2:=o6 K L2;have l:=λ(q:Nat) (M:Live C q) (A:By) (j v:Nat) (hj:j<=2) (hv:v<4294967296)=>wZ K X.toAt M.toAt A (i:=1) (j:=j) (v:=v) (by omega) hj hv;have z:=λ(A:By)=>tN K X.toAt P.toAt A (i:=1) (v:=4) (by omega);have n0:nO none<4294967296:=by decide
 unfold mG qa;rw[z,l p P _ 2 _ (by omega) n0,l p P _ 1 _ (by omega) n0];by_cases h:x=p
 ·simp[h,nO]
 rw[if_neg (by simp[h]),if_neg (by simp[h]),if_neg h];rcases o1 with _|a<;>rcases o2 with _|e<;>dsimp only[Ad]
 ·simp
 ·rw[l e (L2 e rfl) _ 1 _ (by omega) b1]
  by_cases g:x=e
  ·subst g;simp
  have g2:¬e=x:=λu=>g u.symm;simp[g,g2]
 ·rw[l a (L1 a rfl) _ 2 _ (by omega) b2]
  simp
 rw[l e (L2 e rfl) _ 1 _ (by omega) b1,l a (L1 a rfl) _ 2 _ (by omega) b2];by_cases g:x=e
 ·subst g;simp
 have g2:¬e=x:=λu=>g u.symm;simp[g,g2]
theorem ZC{C:Cs}(K:Ok C){x p:Nat}{o1 o2:FK}(X:Live C x)(P:Live C p)(L1:di C o1)(L2:di C o2):
  rd (mG C.A p o1 o2) (x+4*2) 4=if x=p then 0 else if o1=some x then nO o2 else rd C.A (x+4*2) 4:=by
 have b1:=o6 K L1;have b2:=o6 K L2;have l:=λ(q:Nat) (M:Live C q) (A:By) (j v:Nat) (hj:j<=2) (hv:v<4294967296)=>wZ K X.toAt M.toAt A (i:=2) (j:=j) (v:=v) (by omega) hj hv;have z:=λ(A:By)=>tN K X.toAt P.toAt A (i:=2) (v:=4) (by omega);have n0:nO none<4294967296:=by decide
 unfold mG qa;rw[z,l p P _ 2 _ (by omega) n0,l p P _ 1 _ (by omega) n0];by_cases h:x=p
 ·simp[h,nO]
 rw[if_neg (by simp[h]),if_neg (by simp[h]),if_neg h];rcases o1 with _|a<;>rcases o2 with _|e<;>dsimp only[Ad]
 ·simp
 ·rw[l e (L2 e rfl) _ 1 _ (by omega) b1]
  simp
 ·rw[l a (L1 a rfl) _ 2 _ (by omega) b2]
  by_cases g:x=a
  ·subst g;simp
  have g2:¬a=x:=λu=>g u.symm;simp[g,g2]
 rw[l e (L2 e rfl) _ 1 _ (by omega) b1,l a (L1 a rfl) _ 2 _ (by omega) b2];by_cases g:x=a
 ·subst g;simp
 have g2:¬a=x:=λu=>g u.symm;simp[g,g2]
theorem KC{C:Cs}(K:Ok C){x p:Nat}{o1 o2:FK}(X:Live C x)(P:Live C p)(L1:di C o1)(L2:di C o2):
  gz (mG C.A p o1 o2) x=if x=p then 4 else gz C.A x:=by
 have l:=λ(q:Nat) (M:Live C q) (A:By) (j v:Nat) (hj:j<=2)=>JH K X.toAt M.toAt A (j:=j) (v:=v) hj;have z:=λ(A:By)=>aat K X.toAt P.toAt A (v:=4) (by omega);unfold mG qa;rw[z,l p P _ 2 _ (by omega),l p P _ 1 _ (by omega)];rcases o1 with _|a<;>rcases o2 with _|e<;>dsimp only[Ad]
 ·rw[l e (L2 e rfl) _ 1 _ (by omega)]
 ·rw[l a (L1 a rfl) _ 2 _ (by omega)]
 rw[l e (L2 e rfl) _ 1 _ (by omega),l a (L1 a rfl) _ 2 _ (by omega)]
theorem SA{C:Cs}(K:Ok C){p:Nat}(L:Live C p){o1 o2:FK}(L1:di C o1)(L2:di C o2):cZ C C.A (mG C.A p o1 o2) (SQ p):=by
 have n1:=(L.toAt.ba K).2.1;have w:=λ(A:By) (j v:Nat) (hj:1<=j/\j<=2)=>xE (S:=SQ p) A (a:=4*j) (n:=4) (v:=v) L.toAt (by omega) (λi g1 g2=> .inl ⟨by omega,by omega⟩);have w2:=λ(A:By) (v:Nat)=>xE (S:=SQ p) A (a:=45) (n:=1) (v:=v) L.toAt (by omega) (λi g1 g2=> .inr ⟨by omega,rfl⟩);have hS:∀q o,4<=o->o<12->SQ p q o:=λq o h1 h2=> .inl ⟨h1,h2⟩;exact(((Xf K _ hS L1 L2).trans (w _ 1 (nO none) (by omega))).trans (w _ 2 (nO none) (by omega))).trans (w2 _ 4)
theorem get_erase{l:FH}{k m x:Nat}(h:(l.eraseIdx k)[m]?=some x):m<k/\l[m]?=some x\/k<=m/\l[m+1]?=some x:=by
 by_cases h1:m<k
 ·rw[abV h1]at h;exact .inl ⟨h1,h⟩
 rw[abQ (by omega)]at h;exact .inr ⟨by omega,h⟩
theorem ZA{C:Cs}(K:Ok C){Q:F7}(O:iV C Q){p k i:Nat}(hi:i<Q.length)(hk:(ql Q i)[k]?=some p):
  iV (C.wA (mG C.A p (pv (ql Q i) k) (ql Q i)[k+1]?)) (Q.set i ((ql Q i).eraseIdx k)):=by
 have cJ:=(aad.1 hk).1;have hpl:=aaf hk;have LP:=O.lv i p hpl;have I1:gw C (pv (ql Q i) k):=O.Gq λx hx=>pZ hx;have I2:gw C (ql Q i)[k+1]?:=O.Gq λx hx=>aaf hx;have d:=SA K LP I1.lv I2.lv;have hm:∀j x,x∈ql (Q.set i ((ql Q i).eraseIdx k)) j->x≠p/\x∈ql Q j:=λj x hx=>by
  rw[fL hi]at hx;split at hx
  ·next e=>
   subst e;refine⟨λz=> ?_,List.mem_of_mem_eraseIdx hx⟩;subst z;obtain⟨m,hm,em⟩:=List.getElem_of_mem hx;have:=aad.2 ⟨hm,em⟩;rcases get_erase this with⟨h1,h2⟩|⟨h1,h2⟩
   ·have:=iC (O.nd j) hk h2;omega
   have:=iC (O.nd j) hk h2;omega
  next e=>exact⟨λz=>e (O.one hx (by rw[z];exact hpl)),hx⟩
 have WN:∀j x,x∈ql (Q.set i ((ql Q i).eraseIdx k)) j->gw C (some x):=λj x hx y hy=>by
  cases hy;exact⟨O.lv j _ (hm j _ hx).2,O.it j _ (hm j _ hx).2⟩
 have kp:=λj x hx=>mY K d (WN j x hx) (λy _ j s=>s.nX);refine⟨?_,λj x hx=>(kp j x hx x rfl).1,λj x hx=>(kp j x hx x rfl).2,λj x hx=> ?_,λj=> ?_,λj m h=> ?_,λj m h=> ?_⟩
 ·rw[aak];exact O.len
 ·show 1<=gz (mG _ _ _ _) x/\_/\j=qi (C.cl x) _
  rw[cH,KC K (WN j x hx x rfl).1 LP I1.lv I2.lv,if_neg (hm j x hx).1];exact O.st j x (hm j x hx).2
 ·rw[fL hi]
  split
  ·exact(O.nd i).sublist (List.eraseIdx_sublist _ _)
  exact O.nd j
 ·have hx:(ql (Q.set i ((ql Q i).eraseIdx k)) j)[m]?=some (ql (Q.set i ((ql Q i).eraseIdx k)) j)[m]:=aac h
  generalize (ql (Q.set i ((ql Q i).eraseIdx k)) j)[m]=x at hx⊢;have Gu:=aaf hx;have r:=ZD K (WN j x Gu x rfl).1 LP I1.lv I2.lv;rw[if_neg (hm j x Gu).1]at r;rw[cH];refine r.trans ?_;rw[fL hi]at hx⊢;split at hx
  ·next e=>
   subst e;rw[if_pos rfl];rcases get_erase hx with⟨h1,h2⟩|⟨h1,h2⟩
   ·have g2:(ql Q j)[k+1]?≠some x:=λz=>by have:=iC (O.nd j) z h2;omega
    rw[if_neg g2,O.m1 h2];rcases m with _|m
    ·rfl
    show _=nO ((ql Q j).eraseIdx k)[m]?;rw[abV (by omega)];rfl
   by_cases g:m=k
   ·subst g
    rw[if_pos h2];rcases m with _|m
    ·rfl
    show _=nO ((ql Q j).eraseIdx (m+1))[m]?;rw[abV (by omega)];rfl
   have g2:(ql Q j)[k+1]?≠some x:=λz=>by have:=iC (O.nd j) z h2;omega
   rw[if_neg g2,O.m1 h2];obtain⟨u,rfl⟩:∃u,m=u+1:=⟨m-1,by omega⟩;show _=nO ((ql Q j).eraseIdx k)[u]?;rw[abQ (by omega)];rfl
  next e=>
  rw[if_neg e];have hj:=aaf hx;have g2:(ql Q i)[k+1]?≠some x:=λz=>e (O.one hj (aaf z));rw[if_neg g2,O.m1 hx]
 have hx:(ql (Q.set i ((ql Q i).eraseIdx k)) j)[m]?=some (ql (Q.set i ((ql Q i).eraseIdx k)) j)[m]:=aac h;generalize (ql (Q.set i ((ql Q i).eraseIdx k)) j)[m]=x at hx⊢;have Gu:=aaf hx;have r:=ZC K (WN j x Gu x rfl).1 LP I1.lv I2.lv;rw[if_neg (hm j x Gu).1]at r;rw[cH];refine r.trans ?_;rw[fL hi]at hx⊢;split at hx
 ·next e=>
  subst e;rw[if_pos rfl];rcases get_erase hx with⟨h1,h2⟩|⟨h1,h2⟩
  ·by_cases g:m+1=k
   ·subst g
    rw[if_pos (show pv (ql Q j) (m+1)=some x from h2),abQ (by omega)]
   have g2:pv (ql Q j) k≠some x:=λz=>by
    rcases k with _|k
    ·cases z
    have:=iC (O.nd j) z h2;omega
   rw[if_neg g2,O.m2 h2,abV (by omega)]
  have g2:pv (ql Q j) k≠some x:=λz=>by
    rcases k with _|k
    ·cases z
    have:=iC (O.nd j) z h2;omega
  rw[if_neg g2,O.m2 h2,abQ (by omega)]
 next e=>
 rw[if_neg e];have hj:=aaf hx;have g2:pv (ql Q i) k≠some x:=λz=>e (O.one hj (pZ z));rw[if_neg g2,O.m2 hx]
structure S5 (C:Cs)(p:Nat)(A:By)(Q:F7):Prop extends acx C p A Q where
 st:gz A p=4
 no:∀i,p∉ql Q i
theorem yA (q b qb:Nat)(C:Cs)(K:Ok C)(Q:F7)(O:iV C Q)(i k p:Nat)(hk:(ql Q i)[k]?=some p):
  aG aaa 225 [Dk q,Dm Dj (C.hd p)] (λ_=>True) (Cl b C::qY q b qb C Q)
   (λv H=>v=Dm Dl 0/\∃A,H=Cl b (C.wA A)::qY q b qb (C.wA A) (Q.set i ((ql Q i).eraseIdx k))/\S5 C p A (Q.set i ((ql Q i).eraseIdx k))):=by
 have hpl:=aaf hk;have P:gw C (some p):=O.Gq (i:=i) λx hx=>by cases hx;exact hpl
 have L:=(P p rfl).1;have k0:=P.kl p rfl;have hc:=(L.toAt.ba K).1;obtain⟨s1,s2,s3⟩:=O.st i p hpl;have hi:=mW O hc ⟨s1,s2⟩;rw[<-s3]at hi;have I1:gw C (pv (ql Q i) k):=O.Gq λx hx=>pZ hx;have I2:gw C (ql Q i)[k+1]?:=O.Gq λx hx=>aaf hx;have ok:=ZA K O hi hk;have d:=SA K L I1.lv I2.lv;have dst:=KC K L L I1.lv I2.lv;rw[if_pos rfl]at dst;have ce:=IT C Q i k hi (aad.1 hk).1;have hlen:=Hc C Q;have mc:∀j,p∉ql (Q.set i ((ql Q i).eraseIdx k)) j:=λj h=>by
  have:=(ok.st j p h).2.1;rw[cH,dst]at this;omega
 have hn2:(rK C (Q.flatMap (cX C)) i (pv (ql Q i) k) (ql Q i)[k+1]?)[i*3+2]?=some (Dm Dl ((ql Q i).length)):=by rw[Eb];exact om (j:=2) hi rfl
 have DF:=ow C (Q.flatMap (cX C)) i (pv (ql Q i) k) (ql Q i)[k+1]?;have jn:=yz q b qb C.ae.length C K (Q.flatMap (cX C)) i (by omega) (pv (ql Q i) k) (ql Q i)[k+1]? I1.lv I2.lv I1.kl I2.kl (λx hx=>(I2 x hx).2);have lk1:=nt b C K p 1 (pv (ql Q i) k) L k0 (by omega) I1.lv (O.m1 hk);have lk2:=nt b C K p 2 (ql Q i)[k+1]? L k0 (by omega) I2.lv (O.m2 hk);have K1:=K.wA (Ad C.A (pv (ql Q i) k) (ql Q i)[k+1]?);have hS:∀q o,4<=o->o<12->SQ p q o:=λq o h1 h2=> .inl ⟨h1,h2⟩;have P1:gw (C.wA (Ad C.A (pv (ql Q i) k) (ql Q i)[k+1]?)) (some p):=mY K (Xf K C.A hS I1.lv I2.lv) P (λ_ _ j s=>s.nX);have hA:mG C.A p (pv (ql Q i) k) (ql Q i)[k+1]?=qa (Ad C.A (pv (ql Q i) k) (ql Q i)[k+1]?) p:=rfl;rw[hA]at ok d dst;have hql:=xF K O i;generalize pv (ql Q i) k=o1 at*;generalize (ql Q i)[k+1]?=o2 at*;generalize Ad C.A o1 o2=A1 at*;have cJ:=(aad.1 hk).1;unfold qY;generalize gS:Q.flatMap (cX C)=cs at*;generalize rK C cs i o1 o2=ds at*;have Gw:i*3+2<ds.length:=by omega
 have k1p:gw (C.wA (wr A1 (p+4*1) 4 (nO none))) (some p):=P1.link K1 (P1 p rfl).1 (by omega);have k2p:gw (C.wA (wr (wr A1 (p+4*1) 4 (nO none)) (p+4*2) 4 (nO none))) (some p):=k1p.link (K.wA _) (k1p p rfl).1 (by omega);refine af func225 rfl ntmps225 rfl ?_;intro F _;refine bs ?_;refine zl Aa (sq q b qb C K p L k0 ⟨s1,s2⟩) .nil (λ_ le ak=>⟨ak.1,ak.2.1⟩) ?_;rw[<-s3];unfold ij at*;refine ri ?_;refine zl Aa (lk1) .nil (λ_ le ak=>ak.1) ?_;refine dL ?_;refine zl Aa (lk2) .nil (λ_ le ak=>ak.1) ?_;refine bP ?_;refine zl Aa (jn) (.cons .here (.cons .here (.cons .here .nil))) Di ?_;refine bK ?_;refine zl Aa (ee b (C.wA A1) K1 p 1 none (P1 p rfl).1 (P1.kl p rfl) (by omega) (λq h=>by cases h)) (.cons .here .nil) Di ?_;refine bK ?_;refine zl Aa (ee b (C.wA (wr A1 (p+4*1) 4 (nO none))) (K.wA _) p 2 none (k1p p rfl).1 (k1p.kl p rfl) (by omega) (λq h=>by cases h)) (.cons .here .nil) Di ?_;refine bK ?_;refine zl Aa (uj b (C.wA (wr (wr A1 (p+4*1) 4 (nO none)) (p+4*2) 4 (nO none))) (K.wA _) p 4 (by omega) (k2p p rfl).1 (k2p.kl p rfl)) (.cons .here .nil) Di ?_;refine lx ?_;refine Hh (H':= [Cl b (C.wA (qa A1 p)),ag q 182 [Dk b, .slice (some ⟨qb,0,none⟩) C.ae.length C.ae.length],ag qb 333 (ds.set (i*3+2) (Dm Dl (((ql Q i).length:Int)-1)))]) ?_;rw[ce];refine Rt [Cl b (C.wA (qa A1 p)),ag q 182 [Dk b, .slice (some ⟨qb,0,none⟩) C.ae.length C.ae.length],ag qb 333 ((Q.set i ((ql Q i).eraseIdx k)).flatMap (cX C))] results225 ?_;exact⟨rfl,qa A1 p,rfl,⟨ok,d⟩,dst,mc⟩
theorem Yk:(aaa.info? 312).isSome=true:=by kernel_rfl
theorem Ps{n:Nat}{ds:Dq}{F:dG}{σ:aP}{o:Oper}{t yt e:TypeId}{x y:Operand}{a:Addr}(ht:aaa.underlying t=some (.pointer e))(hi:(aaa.info? e).isSome=true)
  (ho:o.op= .binOp .neq t x y yt:=by exact rfl) (hx:bo σ x=some (.pointer (some a)):=by exact rfl) (hy:bo σ y=some (.pointer (some a)):=by exact rfl):Yv aaa n ds F σ o (.bool false):=by
 intro w0 w en _;obtain⟨j,hj⟩:=Option.isSome_iff_exists.1 hi;have h:∀d:Nat,(Op.equalIn (d+1) t (.pointer (some a)) (.pointer (some a))).run aaa w= .ok true w:=λd=>by
  simp[Op.equalIn,run_underlying ht,sizeOf,typeInfo,hj,run_sameAddr_same]
 have r:(Go.binOp .neq t (.pointer (some a)) (.pointer (some a))).run aaa w= .ok (.bool false) w:=by
  simp only[Go.binOp];simp[Op.equal,Op.maxDepth,h 9999]
 simp only[execOp,ho,en.eval hx,en.eval hy,Sem.run_bind,kQ,r,Result.andThen_ok,Sem.run_pure]
def xv (Q:F7)(i k j p:Nat):F7:=(Q.set i ((ql Q i).eraseIdx k)).set j (p::ql (Q.set i ((ql Q i).eraseIdx k)) j)
theorem Mw (q b qb:Nat)(C:Cs)(K:Ok C)(Q:F7)(O:iV C Q)(i k p s:Nat)(hs:1<=s/\s<=3)(hk:(ql Q i)[k]?=some p):
  aG aaa 208 [Dk q,Dm Dj (C.hd p),Dm Dl s] (λ_=>True) (Cl b C::qY q b qb C Q)
   (λv H=>v=Dm Dl 0/\∃A,H=Cl b (C.wA A)::qY q b qb (C.wA A) (xv Q i k (qi (C.cl p) s) p)/\acx C p A (xv Q i k (qi (C.cl p) s) p)):=by
 have P:gw C (some p):=O.Gq (i:=i) λx hx=>by cases hx;exact aaf hk
 unfold qY;refine af func208 rfl ntmps208 rfl ?_;intro F _;refine bs ?_;refine zl Aa (vp s hs) .nil Di ?_;refine cA ?_;refine Lp (oC Aa rfl rfl (yA q b qb C K Q O i k p hk) (.cons .here (.cons .here (.cons .here .nil))) Di ?_);rintro v H' ⟨rfl,A,rfl,D⟩;refine bR ?_;have P2:gw (C.wA A) (some p):=mY K D.d P (λ_ _ j s=>s.nX);have hn2:¬(1<=gz (C.wA A).A p/\gz (C.wA A).A p<=3):=by rw[cH,D.st];omega
 refine gJ ?_;refine Lp (oC Aa rfl rfl (EL q b qb (C.wA A) (K.wA A) (Q.set i ((ql Q i).eraseIdx k)) D.o p s hs P2 hn2) (.cons .here (.cons .here (.cons .here .nil))) Di ?_);rintro v H' ⟨rfl,B,rfl,E⟩;refine bR ?_;refine bq ?_;refine Rt [Cl b (C.wA B),ag q 182 (ij b qb C.ae.length),ag qb 333 ((xv Q i k (qi (C.cl p) s) p).flatMap (cX C))] results208 ?_;exact⟨rfl,B,rfl,E.o,D.d.trans E.d.wA⟩
def SQ2 (p r:Nat)(_q o:Nat):Prop:=4<=o/\o<12\/o=45/\(_q=p\/_q=r)
structure abu (C:Cs)(p r:Nat)(A:By)(Q:F7):Prop where
 o:iV (C.wA A) Q
 d:cZ C C.A A (SQ2 p r)
 st:gz A p=4
theorem KB:∀(l:FH) (k r:Nat),k<l.length->(l.eraseIdx k).insertIdx k r=l.set k r
 |a::l,0,r,_=>by simp
 |a::l,k+1,r,h=>by
  rw[List.eraseIdx_cons_succ,ag2,KB l k r (by simpa using h),List.set_cons_succ]
theorem adG (l:FH)(k:Nat):pv (l.eraseIdx k) k=pv l k:=by
 rcases k with _|k
 ·rfl
 show(l.eraseIdx (k+1))[k]?=l[k]?;rw[abV (by omega)]
theorem T9 (q b qb:Nat)(C:Cs)(K:Ok C)(Q:F7)(O:iV C Q)(i k p r:Nat)(hk:(ql Q i)[k]?=some p)(R:gw C (some r))(hr:¬(1<=gz C.A r/\gz C.A r<=3))(cQ:C.cl r=C.cl p):
  aG aaa 160 [Dk q,Dm Dj (C.hd p),Dm Dj (C.hd r)] (λ_=>True) (Cl b C::qY q b qb C Q)
   (λv H=>v=Dm Dl 0/\∃A,H=Cl b (C.wA A)::qY q b qb (C.wA A) (Q.set i ((ql Q i).set k r))/\abu C p r A (Q.set i ((ql Q i).set k r))):=by
 have hpl:=aaf hk;have cJ:=(aad.1 hk).1;have P:gw C (some p):=O.Gq (i:=i) λx hx=>by cases hx;exact hpl
 have L:=(P p rfl).1;have k0:=P.kl p rfl;have hc:=(L.toAt.ba K).1;have LR:=(R r rfl).1;obtain⟨s1,s2,s3⟩:=O.st i p hpl;have hi:=mW O hc ⟨s1,s2⟩;rw[<-s3]at hi;have I4:r≠p:=λe=>hr (by rw[e];exact⟨s1,s2⟩);have I1:gw C (pv (ql Q i) k):=O.Gq λx hx=>pZ hx;have I2:gw C (ql Q i)[k+1]?:=O.Gq λx hx=>aaf hx;have lk1:=nt b C K p 1 (pv (ql Q i) k) L k0 (by omega) I1.lv (O.m1 hk);have lk2:=nt b C K p 2 (ql Q i)[k+1]? L k0 (by omega) I2.lv (O.m2 hk);have eS:∀q o,SQ p q o->mh o:=λ_ _ s=>s.nX;unfold qY;refine af func160 rfl ntmps160 rfl ?_;intro F _;refine bs ?_;refine zl Aa (sq q b qb C K p L k0 ⟨s1,s2⟩) .nil (λ_ le ak=>⟨ak.1,ak.2.1⟩) ?_;rw[<-s3];generalize hQ:Q.flatMap (cX C)=cs;unfold ij;refine ri ?_;refine zl Aa (qP b C K p L k0) .nil (λ_ le ak=>ak.1) ?_;refine bB ?_;refine zl Aa (EM q b qb C K r (gz C.A p) ⟨s1,s2⟩ LR (R.kl r rfl) hr) .nil (λ_ le ak=>⟨ak.1,ak.2.1⟩) ?_;rw[cQ,<-s3];refine rM ?_;refine Li (Ps aar Yk) ?_;refine bB ?_;refine zl Aa (lk1) .nil (λ_ le ak=>ak.1) ?_;refine dL ?_;refine zl Aa (lk2) .nil (λ_ le ak=>ak.1) ?_;refine cA ?_;rw[<-hQ];refine Lp (oC Aa rfl rfl (yA q b qb C K Q O i k p hk) (.cons .here (.cons .here (.cons .here .nil))) Di ?_);rintro v H' ⟨rfl,A,rfl,D⟩;refine bR ?_;have P2:gw (C.wA A) (some p):=mY K D.d P (λ_ _ j s=>s.nX);have R2:gw (C.wA A) (some r):=mY K D.d R (λ_ _ j s=>s.nX);have hstr:gz A r=gz C.A r:=kX K D.d LR.toAt (by have:=(LR.toAt.ba K).2.1;omega) (λj g1 g2 s=>by unfold SQ at s;omega);have hn2:¬(1<=gz (C.wA A).A r/\gz (C.wA A).A r<=3):=by rw[cH,hstr];exact hr
 have xy:i<(Q.set i ((ql Q i).eraseIdx k)).length:=by rw[aak];exact hi
 have eq2:ql (Q.set i ((ql Q i).eraseIdx k)) i=(ql Q i).eraseIdx k:=by rw[fL hi,if_pos rfl]
 have elen:=ag8 cJ;have ok:=Rq (K.wA A) D.o (p:=r) (s:=gz C.A p) (k:=k) (i:=i) (by show i=qi (C.cl r) _;rw[cQ];exact s3) xy ⟨s1,s2⟩ (by rw[eq2];omega) R2 hn2;have ce:=A5 (C.wA A) (Q.set i ((ql Q i).eraseIdx k)) i k r xy (by rw[eq2];omega);have k2c:=om (C:=C.wA A) (Q:=Q.set i ((ql Q i).eraseIdx k)) (j:=2) xy rfl;have hlen:=Hc (C.wA A) (Q.set i ((ql Q i).eraseIdx k));have I1':gw (C.wA A) (pv (ql Q i) k):=mY K D.d I1 (λ_ _ j s=>s.nX);have I2':gw (C.wA A) (ql Q i)[k+1]?:=mY K D.d I2 (λ_ _ j s=>s.nX);have hqn:=xF (K.wA A) D.o i;have d2:=aaI (K.wA A) (p:=r) (s:=gz C.A p) (R2 r rfl).1 I1'.lv I2'.lv;have dst:=Rp (K.wA A) (x:=p) (p:=r) (s:=gz C.A p) (P2 p rfl).1 (R2 r rfl).1 I1'.lv I2'.lv (by omega);rw[if_neg (Ne.symm I4),cH,D.st]at dst;have lay:=JR q b qb C.ae.length ((ql Q i).eraseIdx k).length (C.wA A) (K.wA A) ((Q.set i ((ql Q i).eraseIdx k)).flatMap (cX (C.wA A))) i (by omega) r (gz C.A p) ⟨s1,s2⟩ (pv (ql Q i) k) (ql Q i)[k+1]? R2 I1' I2' (by rw[Eb,Eb];rw[eq2]at k2c;exact k2c) (by rw[ow,ow]) (ow _ _ _ _ _) (by rw[eq2]at hqn;exact hqn);rw[eq2,adG,abQ (Nat.le_refl k),af6,KB _ _ _ cJ]at ok ce;rw[ce]at lay;rw[cH]at ok;refine cV ?_;refine zl Aa (lay) (.cons .here (.cons .here (.cons .here .nil))) Di ?_;refine bn ?_;refine Rt [Cl b (C.wA (kU A r (gz C.A p) (pv (ql Q i) k) (ql Q i)[k+1]?)),ag q 182 (ij b qb C.ae.length),ag qb 333 ((Q.set i ((ql Q i).set k r)).flatMap (cX C))] results160 ?_;exact⟨rfl,kU A r (gz C.A p) (pv (ql Q i) k) (ql Q i)[k+1]?,rfl,ok,(D.d.mono λq o s=>by unfold SQ at s;unfold SQ2;omega).trans (d2.wA.mono λq o s=>by unfold SQ at s;unfold SQ2;omega),dst⟩
end Go.Proofs.YtcbcjolpdljbiaaGreat
