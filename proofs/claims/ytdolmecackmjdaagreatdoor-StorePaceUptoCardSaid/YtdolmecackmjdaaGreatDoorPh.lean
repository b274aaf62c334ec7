/- Part Ph of the proof. -/
import Derived.Test.YtdolmecackmjdaaGreatDoorPd
import Derived.Test.YtdolmecackmjdaaGreatDoorPg
import Derived.LaidEqlPtr
set_option maxRecDepth 100000
open List renaming getD_eq_getElem?_getD → aab, getElem?_eq_getElem → aac, length_cons → adm, getLast?_cons → aey, getElem?_eq_some_iff → aad, getElem?_set_self → aah, set_set → adw, insertIdx_zero → aet, insertIdx_succ_cons → aeU, getElem?_eq_none → aat, getElem?_map → aap, map_set → adF, getElem_mem → aam, mem_of_getElem? → aaf, getElem?_insertIdx → aee, getElem?_cons_zero → aep, getElem?_cons_succ → adU, nodup_cons → aar, mem_cons_of_mem → aag, mem_cons_self → aai, length_set → aaj, head?_eq_getElem? → aej, getElem?_eraseIdx_of_ge → aaE, getElem?_eraseIdx_of_lt → aaJ, getLast?_eq_getElem? → adW
open Nat renaming mod_eq_of_lt → aaH
open Decidable renaming byContradiction → aak
open Go.Proofs.Tryz renaming prog → aaa
open Go.Proofs.Tryz
namespace Go.Proofs.YtdolmecackmjdaaGreatDoor
open Go Go.cV Go.Proofs.YtdolmecackmjdaaGreatDoor.Cs
def dR (C:Cs)(l:List Nat):List Value:= [.int .u64 (hO C l.head?:Int), .int .u64 (hO C l.getLast?:Int), .int .i64 (l.length:Int)]
theorem S5 (C:Cs):∀l,(dR C l).length=3:=λ_=>rfl
def fj (b qb n:Nat):List Value:= [.pointer (some ⟨b,0,none⟩), .slice (some ⟨qb,0,none⟩) n n]
def qO (q b qb:Nat)(C:Cs)(Q:List (List Nat)):List aa:= [ag q 139 (fj b qb C.ae.length),ag qb 327 (Q.flatMap (dR C))]
def qi (c s:Nat):Nat:=c*3+(s-1)
theorem rP (s:Nat)(h:1≤s∧s≤3):aF aaa 225 [.int .i64 (s:Int)] (λ_=>True) [] (λv H=>v= .bool true∧H= []):=by
 refine af func225 rfl ntmps225 rfl ?_
 intro F _
 refine bL ?_
 refine zt 5 ?_
 refine bD ?_
 refine Rt [] results225 ?_
 exact⟨by rw[decide_eq_true (by omega)],rfl⟩
theorem HT (s:Nat)(h:¬(1≤s∧s≤3)):aF aaa 225 [.int .i64 (s:Int)] (λ_=>True) [] (λv H=>v= .bool false∧H= []):=by
 refine af func225 rfl ntmps225 rfl ?_
 intro F _
 refine bL ?_
 refine aS (t:=5) rfl ?_ ?_
 ·intro h1
  replace h1:=aL h1
  refine bD ?_
  refine Rt [] results225 ?_
  exact⟨by rw[decide_eq_false (by omega)],rfl⟩
 intro h1
 replace h1:=aL h1
 refine bD ?_
 refine Rt [] results225 ?_
 exact⟨rfl,rfl⟩
theorem nt (q b qb n c s:Nat)(hc:c<n)(hn:n≤62)(h:1≤s∧s≤3):
  aF aaa 223 [.pointer (some ⟨q,0,none⟩), .int .i64 (c:Int), .int .i64 (s:Int)] (In (ag q 139 (fj b qb n))) []
   (λv H=>v= .pointer (some ⟨qb,qi c s*3,none⟩)∧H= []):=by
 unfold fj
 refine af func223 rfl ntmps223 rfl ?_
 intro F hq
 refine dh ?_
 refine zf 9 ?_
 refine dg ?_
 refine zf 18 ?_
 refine aA ?_
 refine zl T.yB (rP s h) .nil (λ_ _ _=>trivial) ?_
 refine fK ?_
 refine ay (t:=29) (v':=(.int .i64 ((s-1:Nat):Int))) rfl (by(congr 1;omega)) ?_
 refine aA ?_
 refine Li (Ia T.Zz) ?_
 refine bq ?_
 refine Rt [] results223 ?_
 refine⟨?_,rfl⟩
 unfold qi
 congr 3
 omega
def ij (A:By)(p:Nat):Nat:=rd A (p+45) 1
def ql (Q:List (List Nat))(i:Nat):List Nat:=Q.getD i []
def pv (l:List Nat):Nat→Option Nat
 |0=>none
 |k+1=>l[k]?
structure hZ (C:Cs)(Q:List (List Nat)):Prop where
 len:Q.length=C.ae.length*3
 lv:∀i,∀p∈ql Q i,Live C p
 it:∀i,∀p∈ql Q i,gC C p
 st:∀i,∀p∈ql Q i,1≤ij C.A p∧ij C.A p≤3∧i=qi (C.cl p) (ij C.A p)
 nd:∀i,(ql Q i).Nodup
 l1:∀i k (h:k<(ql Q i).length),rd C.A ((ql Q i)[k]+4) 4=nO (pv (ql Q i) k)
 l2:∀i k (h:k<(ql Q i).length),rd C.A ((ql Q i)[k]+8) 4=nO (ql Q i)[k+1]?
theorem nH{C:Cs}{Q:List (List Nat)}{i j:Nat}{v:Value}(hi:i<Q.length)(hv:(dR C (ql Q i))[j]?=some v):(Q.flatMap (dR C))[i*3+j]?=some v:=
 bj (S5 C) (by unfold ql;rw[aab,aac hi];rfl) hv
theorem mz{C:Cs}{Q:List (List Nat)}(O:hZ C Q){c s:Nat}(hc:c<C.ae.length)(h:1≤s∧s≤3):qi c s<Q.length:=by
 rw[O.len]
 unfold qi
 omega
theorem NY (q b qb n c s:Nat)(hc:c<n)(hn:n≤62)(h:¬(1≤s∧s≤3)):
  aF aaa 223 [.pointer (some ⟨q,0,none⟩), .int .i64 (c:Int), .int .i64 (s:Int)] (In (ag q 139 (fj b qb n))) []
   (λv H=>v= .pointer none∧H= []):=by
 unfold fj
 refine af func223 rfl ntmps223 rfl ?_
 intro F hq
 refine dh ?_
 refine zf 9 ?_
 refine dg ?_
 refine zf 18 ?_
 refine aA ?_
 refine zl T.yB (HT s h) .nil (λ_ _ _=>trivial) ?_
 refine dg ?_
 refine Rt [] results223 ?_
 exact⟨rfl,rfl⟩
theorem vW (q b qb:Nat)(C:Cs)(K:Ok C)(p:Nat)(L:Live C p)(hk:kl C.A p≠0)(h:1≤ij C.A p∧ij C.A p≤3):
  aF aaa 163 [.pointer (some ⟨q,0,none⟩), .int .u64 (C.hd p:Int)] (λh=>In (Cl b C) h∧In (ag q 139 (fj b qb C.ae.length)) h) []
   (λv H=>v= .pointer (some ⟨qb,qi (C.cl p) (ij C.A p)*3,none⟩)∧H= []):=by
 have hc:=(L.toAt.aX K).1
 have hl:=K.toFix.l1
 unfold ij at*
 refine af func163 rfl ntmps163 rfl ?_
 rintro F ⟨fx,hq⟩
 have GH:=hq
 unfold fj at GH
 refine dg ?_
 refine zl T.uC (uG b C K p L) .nil (λ_ le _=>In.mono fx le) ?_
 refine bW ?_
 refine bf ?_
 refine zl T.Dh (rQ b C K p L hk) .nil (λ_ le _=>In.mono fx le) ?_
 refine x7 ?_
 refine zl T.ru (nt q b qb C.ae.length (C.cl p) (rd C.A (p+45) 1) hc hl h) .nil (λ_ le _=>In.mono hq le) ?_
 refine bq ?_
 refine Rt [] results163 ?_
 exact⟨rfl,rfl⟩
theorem Ea (q b qb:Nat)(C:Cs)(K:Ok C)(p:Nat)(L:Live C p)(hk:kl C.A p≠0)(h:¬(1≤ij C.A p∧ij C.A p≤3)):
  aF aaa 163 [.pointer (some ⟨q,0,none⟩), .int .u64 (C.hd p:Int)] (λh=>In (Cl b C) h∧In (ag q 139 (fj b qb C.ae.length)) h) []
   (λv H=>v= .pointer none∧H= []):=by
 have hc:=(L.toAt.aX K).1
 have hl:=K.toFix.l1
 unfold ij at*
 refine af func163 rfl ntmps163 rfl ?_
 rintro F ⟨fx,hq⟩
 have GH:=hq
 unfold fj at GH
 refine dg ?_
 refine zl T.uC (uG b C K p L) .nil (λ_ le _=>In.mono fx le) ?_
 refine bW ?_
 refine bf ?_
 refine zl T.Dh (rQ b C K p L hk) .nil (λ_ le _=>In.mono fx le) ?_
 refine x7 ?_
 refine zl T.ru (NY q b qb C.ae.length (C.cl p) (rd C.A (p+45) 1) hc hl h) .nil (λ_ le _=>In.mono hq le) ?_
 refine bq ?_
 refine Rt [] results163 ?_
 exact⟨rfl,rfl⟩
theorem tA (q b qb:Nat)(C:Cs)(K:Ok C)(Q:List (List Nat))(O:hZ C Q)(c s:Nat)(hc:c<C.ae.length)(h:1≤s∧s≤3):
  aF aaa 210 [.pointer (some ⟨q,0,none⟩), .int .i64 (c:Int), .int .i64 (s:Int)] (gw (qO q b qb C Q)) []
   (λv H=>v= .int .i64 ((ql Q (qi c s)).length:Int)∧H= []):=by
 have hl:=K.toFix.l1
 have k2:=nH (C:=C) (Q:=Q) (j:=2) (mz O hc h) rfl
 refine af func210 rfl ntmps210 rfl ?_
 rintro F ⟨hq,hb,_⟩
 refine bL ?_
 refine zl T.ru (nt q b qb C.ae.length c s hc hl h) .nil (λ_ le _=>In.mono hq le) ?_
 refine x7 ?_
 refine Rt [] results210 ?_
 exact⟨rfl,rfl⟩
theorem vd (q b qb:Nat)(C:Cs)(K:Ok C)(Q:List (List Nat))(O:hZ C Q)(c s:Nat)(hc:c<C.ae.length)(h:1≤s∧s≤3):
  aF aaa 195 [.pointer (some ⟨q,0,none⟩), .int .i64 (c:Int), .int .i64 (s:Int)] (gw (qO q b qb C Q)) []
   (λv H=>v= .tuple #[.int .u64 (hO C (ql Q (qi c s)).getLast?:Int), .bool (ql Q (qi c s)).getLast?.isSome]∧H= []):=by
 have hl:=K.toFix.l1
 have k1:=nH (C:=C) (Q:=Q) (j:=1) (mz O hc h) rfl
 have k2:=nH (C:=C) (Q:=Q) (j:=2) (mz O hc h) rfl
 rcases hz:ql Q (qi c s)with _|⟨a,l⟩
 ·rw[hz]at k1 k2
  refine af func195 rfl ntmps195 rfl ?_
  rintro F ⟨hq,hb,_⟩
  refine dh ?_
  refine zl T.ru (nt q b qb C.ae.length c s hc hl h) .nil (λ_ le _=>In.mono hq le) ?_
  refine bL ?_
  refine zf 15 ?_ (e:=by rfl)
  refine fK ?_
  refine iV [] results195 ?_
  exact⟨rfl,rfl⟩
 rw[hz]at k1 k2
 refine af func195 rfl ntmps195 rfl ?_
 rintro F ⟨hq,hb,_⟩
 refine dh ?_
 refine zl T.ru (nt q b qb C.ae.length c s hc hl h) .nil (λ_ le _=>In.mono hq le) ?_
 refine bL ?_
 refine zf 15 ?_ (e:=by rfl)
 refine bL ?_
 refine dm ?_ (e:=by exact decide_eq_false (by rw[adm];omega))
 refine bI ?_
 refine iV [] results195 ?_
 exact⟨by rw[aey];rfl,rfl⟩
def KlO (C:Cs)(o:Option Nat):Prop:=∀q,o=some q→kl C.A q≠0
def wR (A:By)(o1 o2:Option Nat):By:=
 let B:=match o1 with|none=>A|some a=>wr A (a+4*2) 4 (nO o2)
 match o2 with|none=>B|some e=>wr B (e+4*1) 4 (nO o1)
def oJ (C:Cs)(cs:List Value)(i:Nat)(o1 o2:Option Nat):List Value:=
 let ds:=match o1 with|none=>cs.set (i*3+0) (.int .u64 (hO C o2:Int))|some _=>cs
 match o2 with|none=>ds.set (i*3+1) (.int .u64 (hO C o1:Int))|some _=>ds
theorem ve (q b qb n:Nat)(C:Cs)(K:Ok C)(cs:List Value)(i:Nat)(hi:i*3+2<cs.length)(o1 o2:Option Nat)(L1:cz C o1)(L2:cz C o2)(k1:KlO C o1)(k2:KlO C o2)(it:∀p,o2=some p→gC C p):
  aF aaa 226 [.pointer (some ⟨q,0,none⟩), .pointer (some ⟨qb,i*3,none⟩), .int .u64 (hO C o1:Int), .int .u64 (hO C o2:Int)] (λ_=>True) [Cl b C,ag q 139 (fj b qb n),ag qb 327 cs]
   (λv H=>v= .tuple #[]∧H= [Cl b (C.wA (wR C.A o1 o2)),ag q 139 (fj b qb n),ag qb 327 (oJ C cs i o1 o2)]):=by
 rcases o1 with _|a<;>rcases o2 with _|e
 ·unfold fj wR oJ
  refine af func226 rfl ntmps226 rfl ?_
  intro F _
  refine bW ?_
  refine aW ?_
  refine aG ?_
  refine jA [Cl b C,ag q 139 (fj b qb n),ag qb 327 ((cs.set (i*3+0) (.int .u64 (0:Int))).set (i*3+1) (.int .u64 (0:Int)))] results226 ?_
  exact⟨rfl,rfl⟩
 ·have M:=L2 e rfl
  obtain⟨m1,m2,m3,m4,m5,m6⟩:=bK K M.toAt
  unfold fj wR oJ
  rw[bY]
  refine af func226 rfl ntmps226 rfl ?_
  intro F _
  refine mI ?_
  refine dm ?_
  refine bL ?_
  refine zl T.jK (db b C K e 1 none M (k2 e rfl) (by omega) L1) (.cons .here .nil) (λ_ _ _=>trivial) ?_
  refine aG ?_
  refine jA [Cl b (C.wA (wr C.A (e+4*1) 4 (nO none))),ag q 139 (fj b qb n),ag qb 327 (cs.set (i*3+0) (.int .u64 (C.hd e:Int)))] results226 ?_
  exact⟨rfl,rfl⟩
 ·have M:=L1 a rfl
  obtain⟨m1,m2,m3,m4,m5,m6⟩:=bK K M.toAt
  unfold fj wR oJ
  rw[bY]
  refine af func226 rfl ntmps226 rfl ?_
  intro F _
  refine br ?_
  refine dm ?_
  refine bL ?_
  refine zl T.jK (db b C K a 2 none M (k1 a rfl) (by omega) L2) (.cons .here .nil) (λ_ _ _=>trivial) ?_
  refine eC ?_
  refine aG ?_
  refine jA [Cl b (C.wA (wr C.A (a+4*2) 4 (nO none))),ag q 139 (fj b qb n),ag qb 327 (cs.set (i*3+1) (.int .u64 (C.hd a:Int)))] results226 ?_
  exact⟨rfl,rfl⟩
 have M:=L1 a rfl
 have N:=L2 e rfl
 obtain⟨m1,m2,m3,m4,m5,m6⟩:=bK K M.toAt
 obtain⟨u1,u2,u3,u4,u5,u6⟩:=bK K N.toAt
 have kp:=tG K N.toAt M.toAt (it e rfl) (a:=4*2) (n:=4) (v:=nO (some e)) (by omega)
 unfold fj wR oJ
 rw[bY,bY]
 refine af func226 rfl ntmps226 rfl ?_
 intro F _
 refine br ?_
 refine dm ?_
 refine bL ?_
 refine zl T.jK (db b C K a 2 (some e) M (k1 a rfl) (by omega) L2) (.cons .here .nil) (λ_ _ _=>trivial) ?_
 refine br ?_
 refine dm ?_
 refine bL ?_
 refine zl T.jK (db b (C.wA (wr C.A (a+4*2) 4 (nO (some e)))) (K.wA _) e 1 (some a) (N.wA _) (λh=>k2 e rfl (by rw[←kp.kl];exact h)) (by omega) (λq hq=>(L1 q hq).wA _)) (.cons .here .nil) (λ_ _ _=>trivial) ?_
 refine aG ?_
 refine jA [Cl b ((C.wA (wr C.A (a+4*2) 4 (nO (some e)))).wA (wr (wr C.A (a+4*2) 4 (nO (some e))) (e+4*1) 4 (nO (some a)))),ag q 139 (fj b qb n),ag qb 327 cs] results226 ?_
 exact⟨rfl,rfl⟩
theorem Tv{C:Cs}(K:Ok C){p q:Nat}(L:At C p)(M:At C q)(I:gC C p)(v:Nat):Kept C (wr C.A (q+45) 1 v) p:=by
 have n1:=(L.aX K).2.1
 have m1:=(M.aX K).2.1
 have hf:=I.fits
 have r:=λ(o w:Nat) (h1:o+w≤45∨46≤o) (h2:o+w≤C.sz (C.cl p))=>jJ K L M (a:=45) (n:=1) (v:=v) (o:=o) (w:=w) (by omega) h2 (λ_=>by omega)
 have e1:kl (wr C.A (q+45) 1 v) p=kl C.A p:=r 44 1 (by omega) (by omega)
 have e2:vl (wr C.A (q+45) 1 v) p=vl C.A p:=r 48 4 (by omega) (by omega)
 refine⟨e1,e2, ?_,λJ=>⟨?_, ?_, ?_, ?_⟩⟩
 ·unfold aE
  rw[e1]
  exact Fq K L M (by omega) (by omega) (λ_=>by omega)
 ·rw[cg,e1];exact J.k0
 ·rw[cg,e1,e2];exact J.fits
 ·rw[cg,r 16 8 (by omega) (by omega)];exact J.exp
 rw[cg,r 24 8 (by omega) (by omega)];exact J.tch
def gv (C:Cs)(o:Option Nat):Prop:=∀q,o=some q→Live C q∧gC C q
theorem gv.lv{C:Cs}{o:Option Nat}(h:gv C o):cz C o:=λq e=>(h q e).1
theorem gv.kl{C:Cs}{o:Option Nat}(h:gv C o):KlO C o:=λq e=>(h q e).2.k0
theorem gv.link{C:Cs}(K:Ok C){o:Option Nat}(h:gv C o){p:Nat}(M:Live C p){a n v:Nat}(ha:a+n≤12):gv (C.wA (wr C.A (p+a) n v)) o:=
 λq e=>⟨(h q e).1.wA _,(tG K (h q e).1.toAt M.toAt (h q e).2 ha).it (h q e).2⟩
theorem gv.state{C:Cs}(K:Ok C){o:Option Nat}(h:gv C o){p:Nat}(M:Live C p)(v:Nat):gv (C.wA (wr C.A (p+45) 1 v)) o:=
 λq e=>⟨(h q e).1.wA _,(Tv K (h q e).1.toAt M.toAt (h q e).2 v).it (h q e).2⟩
theorem gv.join{C:Cs}(K:Ok C){o:Option Nat}(h:gv C o){o1 o2:Option Nat}(h1:gv C o1)(h2:gv C o2):gv (C.wA (wR C.A o1 o2)) o:=by
 rcases o1 with _|a<;>rcases o2 with _|e
 ·exact h
 ·exact h.link K (h2 e rfl).1 (a:=4*1) (by omega)
 ·exact h.link K (h1 a rfl).1 (a:=4*2) (by omega)
 have g:=h.link K (h1 a rfl).1 (a:=4*2) (n:=4) (v:=nO (some e)) (by omega)
 exact g.link (K.wA _) ((h2 e rfl).1.wA _) (a:=4*1) (by omega)
def jF (A:By)(p s:Nat)(o1 o2:Option Nat):By:=wr (wr (wr A (p+4*1) 4 (nO o1)) (p+4*2) 4 (nO o2)) (p+45) 1 s
def ko (A:By)(p s:Nat)(o1 o2:Option Nat):By:=wR (wR (jF A p s o1 o2) o1 (some p)) (some p) o2
theorem Si (q b qb n m:Nat)(C:Cs)(K:Ok C)(cs:List Value)(i:Nat)(hi:i*3+2<cs.length)(p s:Nat)(hs:1≤s∧s≤3)(o1 o2:Option Nat)(hp:gv C (some p))(h1:gv C o1)(h2:gv C o2)
  (hn:(oJ C (oJ C cs i o1 (some p)) i (some p) o2)[i*3+2]?=some (.int .i64 (m:Int))) (hl:(oJ C (oJ C cs i o1 (some p)) i (some p) o2).length=cs.length) (Uv:(oJ C cs i o1 (some p)).length=cs.length) (hm:m≤1073741824):
  aF aaa 167 [.pointer (some ⟨q,0,none⟩), .pointer (some ⟨qb,i*3,none⟩), .int .u64 (C.hd p:Int), .int .i64 (s:Int), .int .u64 (hO C o1:Int), .int .u64 (hO C o2:Int)] (λ_=>True) [Cl b C,ag q 139 (fj b qb n),ag qb 327 cs]
   (λv H=>v= .tuple #[]∧H= [Cl b (C.wA (ko C.A p s o1 o2)),ag q 139 (fj b qb n),ag qb 327 ((oJ C (oJ C cs i o1 (some p)) i (some p) o2).set (i*3+2) (.int .i64 ((m+1:Nat):Int)))]):=by
 have L:=(hp p rfl).1
 have k0:=hp.kl p rfl
 have g1:=hp.link K L (a:=4*1) (n:=4) (v:=nO o1) (by omega)
 have a1:=h1.link K L (a:=4*1) (n:=4) (v:=nO o1) (by omega)
 have b1:=h2.link K L (a:=4*1) (n:=4) (v:=nO o1) (by omega)
 have K1:=K.wA (wr C.A (p+4*1) 4 (nO o1))
 have g2:=g1.link K1 (g1 p rfl).1 (a:=4*2) (n:=4) (v:=nO o2) (by omega)
 have a2:=a1.link K1 (g1 p rfl).1 (a:=4*2) (n:=4) (v:=nO o2) (by omega)
 have b2:=b1.link K1 (g1 p rfl).1 (a:=4*2) (n:=4) (v:=nO o2) (by omega)
 have K2:=K.wA (wr (wr C.A (p+4*1) 4 (nO o1)) (p+4*2) 4 (nO o2))
 have g3:=g2.state K2 (g2 p rfl).1 s
 have a3:=a2.state K2 (g2 p rfl).1 s
 have b3:=b2.state K2 (g2 p rfl).1 s
 have K3:=K.wA (jF C.A p s o1 o2)
 have g4:=g3.join K3 a3 g3
 have b4:=b3.join K3 a3 g3
 have K4:=K.wA (wR (jF C.A p s o1 o2) o1 (some p))
 have j1:=ve q b qb n (C.wA (jF C.A p s o1 o2)) K3 cs i hi o1 (some p) a3.lv g3.lv a3.kl g3.kl (λu hu=>(g3 u hu).2)
 have j2:=ve q b qb n (C.wA (wR (jF C.A p s o1 o2) o1 (some p))) K4 (oJ C cs i o1 (some p)) i (by rw[Uv];exact hi) (some p) o2 g4.lv b4.lv g4.kl b4.kl (λu hu=>(b4 u hu).2)
 unfold fj at*
 refine af func167 rfl ntmps167 rfl ?_
 intro F _
 refine bL ?_
 refine zl T.jK (db b C K p 1 o1 L k0 (by omega) h1.lv) (.cons .here .nil) (λ_ _ _=>trivial) ?_
 refine dh ?_
 refine zl T.jK (db b (C.wA (wr C.A (p+4*1) 4 (nO o1))) K1 p 2 o2 (g1 p rfl).1 (g1.kl p rfl) (by omega) b1.lv) (.cons .here .nil) (λ_ _ _=>trivial) ?_
 refine dh ?_
 refine zl T.L9 (qJ b (C.wA (wr (wr C.A (p+4*1) 4 (nO o1)) (p+4*2) 4 (nO o2))) K2 p s ⟨hs.1,by omega⟩ (g2 p rfl).1 (g2.kl p rfl)) (.cons .here .nil) (λ_ _ _=>trivial) ?_
 refine bD ?_
 refine zl T.Dc (j1) (.cons .here (.cons .here (.cons .here .nil))) (λ_ _ _=>trivial) ?_
 refine bD ?_
 refine zl T.Dc (j2) (.cons .here (.cons .here (.cons .here .nil))) (λ_ _ _=>trivial) ?_
 refine Hh (H':= [Cl b (C.wA (ko C.A p s o1 o2)),ag q 139 [.pointer (some ⟨b,0,none⟩), .slice (some ⟨qb,0,none⟩) n n],ag qb 327 (oJ C (oJ C cs i o1 (some p)) i (some p) o2)]) ?_
 generalize oJ C (oJ C cs i o1 (some p)) i (some p) o2=ds at hn hl⊢
 have zP:i*3+2<ds.length:=by rw[hl];exact hi
 refine bA ?_
 refine aG ?_
 refine jA [Cl b (C.wA (ko C.A p s o1 o2)),ag q 139 [.pointer (some ⟨b,0,none⟩), .slice (some ⟨qb,0,none⟩) n n],ag qb 327 (ds.set (i*3+2) (.int .i64 ((m:Int)+1)))] results167 ?_
 exact⟨rfl,rfl⟩
structure T3 where
 a:Value
 b:Value
 c:Value
def t3 (x:T3):List Value:= [x.a,x.b,x.c]
theorem uJ:∀x,(t3 x).length=3:=λ_=>rfl
def GF (C:Cs)(l:List Nat):T3:=⟨.int .u64 (hO C l.head?:Int), .int .u64 (hO C l.getLast?:Int), .int .i64 (l.length:Int)⟩
theorem Ah (C:Cs)(Q:List (List Nat)):Q.flatMap (dR C)=(Q.map (GF C)).flatMap t3:=by
 rw[List.flatMap_map];rfl
def ZJ (C:Cs)(x:T3)(o1 o2:Option Nat):T3:=
 let y:T3:=match o1 with|none=>{x with a:= .int .u64 (hO C o2:Int)}|some _=>x
 match o2 with|none=>{y with b:= .int .u64 (hO C o1:Int)}|some _=>y
theorem KG (C:Cs)(R:List T3)(i:Nat)(x:T3)(h:R[i]?=some x)(o1 o2:Option Nat):oJ C (R.flatMap t3) i o1 o2=(R.set i (ZJ C x o1 o2)).flatMap t3:=by
 have hi:=(aad.1 h).1
 have s0:∀(S:List T3) (y:T3) (v:Value),S[i]?=some y→(S.flatMap t3).set (i*3+0) v=(S.set i {y with a:=v}).flatMap t3:=λS y v hs=>cq uJ hs rfl (by decide)
 have s1:∀(S:List T3) (y:T3) (v:Value),S[i]?=some y→(S.flatMap t3).set (i*3+1) v=(S.set i {y with b:=v}).flatMap t3:=λS y v hs=>cq uJ hs rfl (by decide)
 have same:R.set i x=R:=by
  obtain⟨h1,h2⟩:=aad.1 h
  rw[←h2,List.set_getElem_self]
 rcases o1 with _|a<;>rcases o2 with _|e
 ·unfold oJ ZJ
  show((R.flatMap t3).set (i*3+0) _).set (i*3+1) _=_
  rw[s0 R x _ h,s1 _ _ _ (aah hi),adw]
 ·exact s0 R x _ h
 ·exact s1 R x _ h
 unfold oJ ZJ
 show R.flatMap t3=(R.set i x).flatMap t3
 rw[same]
theorem sE:∀(l:List Nat) (k p:Nat) (_:k≤l.length),(l.insertIdx k p).getLast?=if k=l.length then some p else l.getLast?
 | [],0,p,_=>rfl
 |a::l,0,p,_=>by
  rw[aet,List.getLast?_cons_cons,if_neg (by simp)]
 |a::l,k+1,p,h=>by
  rw[aeU,aey,sE l k p (by simpa using h),adm,aey]
  by_cases e:k=l.length
  ·rw[if_pos e,if_pos (by omega)];rfl
  rw[if_neg e,if_neg (by omega)]
theorem OI (l:List Nat)(k p:Nat)(h:k≤l.length):(l.insertIdx k p).head?=if k=0 then some p else l.head?:=by
 rcases k with _|k
 ·simp
 rcases l with _|⟨a,l⟩
 ·simp at h
 simp
theorem XT (C:Cs)(l:List Nat)(k p:Nat)(h:k≤l.length):{ZJ C (ZJ C (GF C l) (pv l k) (some p)) (some p) l[k]? with c:= .int .i64 ((l.length+1:Nat):Int)}=GF C (l.insertIdx k p):=by
 unfold GF
 rw[OI l k p h,sE l k p h,List.length_insertIdx_of_le_length h]
 rcases k with _|k
 ·by_cases e:0<l.length
  ·rw[aac e,if_pos rfl,if_neg (by omega)];rfl
  rw[aat (by omega),if_pos rfl,if_pos (by omega)];rfl
 have e1:pv l (k+1)=some l[k]:=aac (by omega)
 by_cases e:k+1<l.length
 ·rw[e1,aac e,if_neg (by omega),if_neg (by omega)];rfl
 rw[e1,aat (by omega),if_neg (by omega),if_pos (by omega)];rfl
theorem HQ (C:Cs)(Q:List (List Nat))(i k p:Nat)(hi:i<Q.length)(h:k≤(ql Q i).length):
  (oJ C (oJ C (Q.flatMap (dR C)) i (pv (ql Q i) k) (some p)) i (some p) (ql Q i)[k]?).set (i*3+2) (.int .i64 (((ql Q i).length+1:Nat):Int))=(Q.set i ((ql Q i).insertIdx k p)).flatMap (dR C):=by
 have hq:(Q.map (GF C))[i]?=some (GF C (ql Q i)):=by
  unfold ql
  rw[aap,aab,aac hi];rfl
 have zP:i<(Q.map (GF C)).length:=by simpa using hi
 have s2:∀(S:List T3) (y:T3) (v:Value),S[i]?=some y→(S.flatMap t3).set (i*3+2) v=(S.set i {y with c:=v}).flatMap t3:=λS y v hs=>cq uJ hs rfl (by decide)
 rw[Ah,Ah,KG C _ i _ hq,KG C _ i _ (aah zP),adw,s2 _ _ _ (aah zP),adw,XT C _ k p h,adF]
theorem NX (q b qb:Nat)(C:Cs)(K:Ok C)(p j:Nat)(hj:j=1∨j=2)(o:Option Nat)(L:Live C p)(hk:kl C.A p≠0)(h:1≤ij C.A p∧ij C.A p≤3)(ho:cz C o)(hn:rd C.A (p+4*j) 4=nO o):
  aF aaa 211 [.pointer (some ⟨q,0,none⟩), .int .u64 (C.hd p:Int), .int .i64 (j:Int)] (λh=>In (Cl b C) h∧In (ag q 139 (fj b qb C.ae.length)) h) []
   (λv H=>v= .tuple #[.int .u64 (hO C o:Int), .bool o.isSome]∧H= []):=by
 refine af func211 rfl ntmps211 rfl ?_
 rintro F ⟨fx,hq⟩
 have GH:=hq
 unfold fj at GH
 refine dh ?_
 refine zl T.Di (vW q b qb C K p L hk h) .nil (λ_ le _=>⟨In.mono fx le,In.mono hq le⟩) ?_
 refine eC ?_
 refine zl T.yK (qz b C K p j o L hk (by omega) ho hn) .nil (λ_ le _=>In.mono fx le) ?_
 rcases o with _|e
 ·refine Li Mv ?_
  refine bA ?_
  refine zf 26 ?_ (e:=by rfl)
  refine bI ?_
  refine iV [] results211 ?_
  exact⟨rfl,rfl⟩
 obtain⟨m1,m2,m3,m4,m5,m6⟩:=bK K (ho e rfl).toAt
 rw[bY]
 refine bI ?_
 refine zf 26 ?_ (e:=by rfl)
 refine aW ?_
 refine dm ?_
 refine dh ?_
 refine iV [] results211 ?_
 exact⟨rfl,rfl⟩
theorem HE (q b qb:Nat)(C:Cs)(K:Ok C)(Q:List (List Nat))(O:hZ C Q)(i k:Nat)(hk:k<(ql Q i).length):
  aF aaa 146 [.pointer (some ⟨q,0,none⟩), .int .u64 (C.hd (ql Q i)[k]:Int)] (λh=>In (Cl b C) h∧In (ag q 139 (fj b qb C.ae.length)) h) []
   (λv H=>v= .tuple #[.int .u64 (hO C (pv (ql Q i) k):Int), .bool (pv (ql Q i) k).isSome]∧H= []):=by
 have hp:=aam hk
 have s:=O.st i _ hp
 have ho:cz C (pv (ql Q i) k):=λu hu=>by
  rcases k with _|k
  ·cases hu
  exact O.lv i u (aaf hu)
 refine af func146 rfl ntmps146 rfl ?_
 rintro F ⟨fx,hq⟩
 refine bL ?_
 refine zl T.Ym (NX q b qb C K (ql Q i)[k] 1 (.inl rfl) (pv (ql Q i) k) (O.lv i _ hp) (O.it i _ hp).k0 ⟨s.1,s.2.1⟩ ho (O.l1 i k hk)) .nil (λ_ le _=>⟨In.mono fx le,In.mono hq le⟩) ?_
 refine bD ?_
 refine iV [] results146 ?_
 exact⟨rfl,rfl⟩
theorem NZ (q b qb:Nat)(C:Cs)(K:Ok C)(p s:Nat)(hs:1≤s∧s≤3)(L:Live C p)(hk:kl C.A p≠0)(h:¬(1≤ij C.A p∧ij C.A p≤3)):
  aF aaa 165 [.pointer (some ⟨q,0,none⟩), .int .u64 (C.hd p:Int), .int .i64 (s:Int)] (λh=>In (Cl b C) h∧In (ag q 139 (fj b qb C.ae.length)) h) []
   (λv H=>v= .tuple #[.pointer (some ⟨qb,qi (C.cl p) s*3,none⟩), .int .i64 0]∧H= []):=by
 have hc:=(L.toAt.aX K).1
 have hl:=K.toFix.l1
 refine af func165 rfl ntmps165 rfl ?_
 rintro F ⟨fx,hq⟩
 have GH:=hq
 unfold fj at GH
 refine bL ?_
 refine zl T.yB (rP s hs) .nil (λ_ _ _=>trivial) ?_
 refine bI ?_
 refine zl T.Mg (sD b C K p L hk) .nil (λ_ le _=>In.mono fx le) ?_
 refine gP ?_
 refine zf 28 ?_ (e:=by rfl)
 refine aW ?_
 refine dm ?_
 refine bD ?_
 refine zl T.Di (Ea q b qb C K p L hk h) .nil (λ_ le _=>⟨In.mono fx le,In.mono hq le⟩) ?_
 refine bI ?_
 refine zl T.uC (uG b C K p L) .nil (λ_ le _=>In.mono fx le) ?_
 refine bW ?_
 refine zl T.ru (nt q b qb C.ae.length (C.cl p) s hc hl hs) .nil (λ_ le _=>In.mono hq le) ?_
 refine aW ?_
 refine iV [] results165 ?_
 exact⟨rfl,rfl⟩
theorem tz{C:Cs}(K:Ok C){x q:Nat}(L:At C x)(M:At C q)(A:By){i j v:Nat}(hi:i≤2)(hj:j≤2)(hv:v<4294967296):rd (wr A (q+4*j) 4 v) (x+4*i) 4=if x=q∧i=j then v else rd A (x+4*i) 4:=by
 have n1:=(L.aX K).2.1
 have m1:=(M.aX K).2.1
 split
 ·next h=>
  obtain⟨rfl,rfl⟩:=h
  rw[cG]
  exact aaH hv
 next h=>exact jJ (C:=C.wA A) (K.wA A) (L.wA A) (M.wA A) (a:=4*j) (n:=4) (o:=4*i) (w:=4) (by show _≤C.sz (C.cl q);omega) (by show _≤C.sz (C.cl x);omega) (λe=>by
  have:i≠j:=λg=>h ⟨e,g⟩
  omega)
theorem qw{C:Cs}(K:Ok C){x q:Nat}(L:At C x)(M:At C q)(A:By){i v:Nat}(hi:i≤2):rd (wr A (q+45) 1 v) (x+4*i) 4=rd A (x+4*i) 4:=by
 have n1:=(L.aX K).2.1
 have m1:=(M.aX K).2.1
 exact jJ (C:=C.wA A) (K.wA A) (L.wA A) (M.wA A) (a:=45) (n:=1) (o:=4*i) (w:=4) (by show _≤C.sz (C.cl q);omega) (by show _≤C.sz (C.cl x);omega) (λ_=>by omega)
theorem Fk{C:Cs}(K:Ok C){x q:Nat}(L:At C x)(M:At C q)(A:By){j v:Nat}(hj:j≤2):ij (wr A (q+4*j) 4 v) x=ij A x:=by
 have n1:=(L.aX K).2.1
 have m1:=(M.aX K).2.1
 exact jJ (C:=C.wA A) (K.wA A) (L.wA A) (M.wA A) (a:=4*j) (n:=4) (o:=45) (w:=1) (by show _≤C.sz (C.cl q);omega) (by show _≤C.sz (C.cl x);omega) (λ_=>by omega)
theorem UL{C:Cs}(K:Ok C){x q:Nat}(L:At C x)(M:At C q)(A:By){v:Nat}(hv:v<256):ij (wr A (q+45) 1 v) x=if x=q then v else ij A x:=by
 have n1:=(L.aX K).2.1
 have m1:=(M.aX K).2.1
 split
 ·next h=>
  subst h
  unfold ij
  rw[cG]
  exact aaH (by rw[Nat.pow_one];exact hv)
 next h=>exact jJ (C:=C.wA A) (K.wA A) (L.wA A) (M.wA A) (a:=45) (n:=1) (o:=45) (w:=1) (by show _≤C.sz (C.cl q);omega) (by show _≤C.sz (C.cl x);omega) (λe=>absurd e h)
theorem vk (A:By)(p s:Nat)(o1 o2:Option Nat):ko A p s o1 o2=
  (match o2 with
   |none=>wr (wr (match o1 with|none=>jF A p s o1 o2|some a=>wr (jF A p s o1 o2) (a+4*2) 4 (nO (some p))) (p+4*1) 4 (nO o1)) (p+4*2) 4 (nO o2)
   |some e=>wr (wr (wr (match o1 with|none=>jF A p s o1 o2|some a=>wr (jF A p s o1 o2) (a+4*2) 4 (nO (some p))) (p+4*1) 4 (nO o1)) (p+4*2) 4 (nO o2)) (e+4*1) 4 (nO (some p))):=by
 rcases o1 with _|a<;>rcases o2 with _|e<;>rfl
theorem XX{C:Cs}(K:Ok C){x p s:Nat}{o1 o2:Option Nat}(X:Live C x)(P:Live C p)(L1:cz C o1)(L2:cz C o2)(d2:o2≠some p):
  rd (ko C.A p s o1 o2) (x+4*1) 4=if x=p then nO o1 else if o2=some x then nO (some p)else rd C.A (x+4*1) 4:=by
 have b1:=mA K L1
 have b2:=mA K L2
 have bp:=mA K (o:=some p) (λq hq=>by cases hq;exact P)
 have l:=λ(q:Nat) (M:Live C q) (A:By) (j v:Nat) (hj:j≤2) (hv:v<4294967296)=>tz K X.toAt M.toAt A (i:=1) (j:=j) (v:=v) (by omega) hj hv
 have z:=λ(A:By)=>qw K X.toAt P.toAt A (i:=1) (v:=s) (by omega)
 rw[vk]
 rcases o1 with _|a<;>rcases o2 with _|e<;>dsimp only<;>unfold jF
 ·rw[l p P _ 2 _ (by omega) b2,l p P _ 1 _ (by omega) b1,z,l p P _ 2 _ (by omega) b2,l p P _ 1 _ (by omega) b1]
  by_cases h:x=p<;>simp[h]
 ·have E:=L2 e rfl
  have ne:e≠p:=λh=>d2 (by rw[h])
  rw[l e E _ 1 _ (by omega) bp,l p P _ 2 _ (by omega) b2,l p P _ 1 _ (by omega) b1,z,l p P _ 2 _ (by omega) b2,l p P _ 1 _ (by omega) b1]
  by_cases h:x=p
  ·subst h;simp[Ne.symm ne]
  by_cases g:x=e
  ·subst g;simp[h]
  have g2:¬e=x:=λu=>g u.symm
  simp[h,g,g2]
 ·have A':=L1 a rfl
  rw[l p P _ 2 _ (by omega) b2,l p P _ 1 _ (by omega) b1,l a A' _ 2 _ (by omega) bp,z,l p P _ 2 _ (by omega) b2,l p P _ 1 _ (by omega) b1]
  by_cases h:x=p<;>simp[h]
 have A':=L1 a rfl
 have E:=L2 e rfl
 have ne:e≠p:=λh=>d2 (by rw[h])
 rw[l e E _ 1 _ (by omega) bp,l p P _ 2 _ (by omega) b2,l p P _ 1 _ (by omega) b1,l a A' _ 2 _ (by omega) bp,z,l p P _ 2 _ (by omega) b2,l p P _ 1 _ (by omega) b1]
 by_cases h:x=p
 ·subst h;simp[Ne.symm ne]
 by_cases g:x=e
 ·subst g;simp[h]
 have g2:¬e=x:=λu=>g u.symm
 simp[h,g,g2]
theorem XW{C:Cs}(K:Ok C){x p s:Nat}{o1 o2:Option Nat}(X:Live C x)(P:Live C p)(L1:cz C o1)(L2:cz C o2)(d1:o1≠some p):
  rd (ko C.A p s o1 o2) (x+4*2) 4=if x=p then nO o2 else if o1=some x then nO (some p)else rd C.A (x+4*2) 4:=by
 have b1:=mA K L1
 have b2:=mA K L2
 have bp:=mA K (o:=some p) (λq hq=>by cases hq;exact P)
 have l:=λ(q:Nat) (M:Live C q) (A:By) (j v:Nat) (hj:j≤2) (hv:v<4294967296)=>tz K X.toAt M.toAt A (i:=2) (j:=j) (v:=v) (by omega) hj hv
 have z:=λ(A:By)=>qw K X.toAt P.toAt A (i:=2) (v:=s) (by omega)
 rw[vk]
 rcases o1 with _|a<;>rcases o2 with _|e<;>dsimp only<;>unfold jF
 ·rw[l p P _ 2 _ (by omega) b2,l p P _ 1 _ (by omega) b1,z,l p P _ 2 _ (by omega) b2,l p P _ 1 _ (by omega) b1]
  by_cases h:x=p<;>simp[h]
 ·have E:=L2 e rfl
  rw[l e E _ 1 _ (by omega) bp,l p P _ 2 _ (by omega) b2,l p P _ 1 _ (by omega) b1,z,l p P _ 2 _ (by omega) b2,l p P _ 1 _ (by omega) b1]
  by_cases h:x=p<;>simp[h]
 ·have A':=L1 a rfl
  rw[l p P _ 2 _ (by omega) b2,l p P _ 1 _ (by omega) b1,l a A' _ 2 _ (by omega) bp,z,l p P _ 2 _ (by omega) b2,l p P _ 1 _ (by omega) b1]
  by_cases h:x=p
  ·simp[h]
  by_cases g:x=a
  ·subst g;simp[h]
  have g2:¬a=x:=λu=>g u.symm
  simp[h,g,g2]
 have A':=L1 a rfl
 have E:=L2 e rfl
 rw[l e E _ 1 _ (by omega) bp,l p P _ 2 _ (by omega) b2,l p P _ 1 _ (by omega) b1,l a A' _ 2 _ (by omega) bp,z,l p P _ 2 _ (by omega) b2,l p P _ 1 _ (by omega) b1]
 by_cases h:x=p
 ·simp[h]
 by_cases g:x=a
 ·subst g;simp[h]
 have g2:¬a=x:=λu=>g u.symm
 simp[h,g,g2]
theorem XU{C:Cs}(K:Ok C){x p s:Nat}{o1 o2:Option Nat}(X:Live C x)(P:Live C p)(L1:cz C o1)(L2:cz C o2)(hs:s<256):
  ij (ko C.A p s o1 o2) x=if x=p then s else ij C.A x:=by
 have l:=λ(q:Nat) (M:Live C q) (A:By) (j v:Nat) (hj:j≤2)=>Fk K X.toAt M.toAt A (j:=j) (v:=v) hj
 have z:=λ(A:By)=>UL K X.toAt P.toAt A (v:=s) hs
 rw[vk]
 rcases o1 with _|a<;>rcases o2 with _|e<;>dsimp only<;>unfold jF
 ·rw[l p P _ 2 _ (by omega),l p P _ 1 _ (by omega),z,l p P _ 2 _ (by omega),l p P _ 1 _ (by omega)]
 ·rw[l e (L2 e rfl) _ 1 _ (by omega),l p P _ 2 _ (by omega),l p P _ 1 _ (by omega),z,l p P _ 2 _ (by omega),l p P _ 1 _ (by omega)]
 ·rw[l p P _ 2 _ (by omega),l p P _ 1 _ (by omega),l a (L1 a rfl) _ 2 _ (by omega),z,l p P _ 2 _ (by omega),l p P _ 1 _ (by omega)]
 rw[l e (L2 e rfl) _ 1 _ (by omega),l p P _ 2 _ (by omega),l p P _ 1 _ (by omega),l a (L1 a rfl) _ 2 _ (by omega),z,l p P _ 2 _ (by omega),l p P _ 1 _ (by omega)]
theorem eZ{Q:List (List Nat)}{i:Nat}(h:i<Q.length)(l:List Nat)(j:Nat):ql (Q.set i l) j=if j=i then l else ql Q j:=by
 unfold ql
 split
 ·next e=>rw[e];exact kP h l
 next e=>exact getD_set_ne (λg=>e g.symm) l
theorem FL{l:List Nat}{k p x:Nat}(h:k≤l.length)(hx:x∈l.insertIdx k p):x=p∨x∈l:=(List.mem_insertIdx h).1 hx
theorem XE (l:List Nat)(k p j:Nat)(h:k≤l.length)(hj:j<(l.insertIdx k p).length):pv (l.insertIdx k p) j=if j=0 then none else if j-1<k then l[j-1]? else if j-1=k then some p else l[j-2]?:=by
 rcases j with _|j
 ·rfl
 show(l.insertIdx k p)[j]?=_
 rw[aee,if_neg (show¬j+1=0 by omega),show j+1-1=j from rfl,show j+1-2=j-1 by omega]
 by_cases h1:j<k
 ·rw[if_pos h1,if_pos h1]
 rw[if_neg h1,if_neg h1]
 by_cases h2:j=k
 ·rw[if_pos h2,if_pos h2,if_pos (by omega)]
 rw[if_neg h2,if_neg h2]
theorem HR{C:Cs}(K:Ok C){p s:Nat}{o1 o2:Option Nat}(hp:gv C (some p))(h1:gv C o1)(h2:gv C o2){o:Option Nat}(h:gv C o):gv (C.wA (ko C.A p s o1 o2)) o:=by
 have L:=(hp p rfl).1
 have s1:=λ{o:Option Nat} (h:gv C o)=>h.link K L (a:=4*1) (n:=4) (v:=nO o1) (by omega)
 have K1:=K.wA (wr C.A (p+4*1) 4 (nO o1))
 have s2:=λ{o:Option Nat} (h:gv C o)=>(s1 h).link K1 (s1 hp p rfl).1 (a:=4*2) (n:=4) (v:=nO o2) (by omega)
 have K2:=K.wA (wr (wr C.A (p+4*1) 4 (nO o1)) (p+4*2) 4 (nO o2))
 have s3:=λ{o:Option Nat} (h:gv C o)=>(s2 h).state K2 (s2 hp p rfl).1 s
 have K3:=K.wA (jF C.A p s o1 o2)
 have s4:=λ{o:Option Nat} (h:gv C o)=>(s3 h).join K3 (s3 h1) (s3 hp)
 have K4:=K.wA (wR (jF C.A p s o1 o2) o1 (some p))
 exact(s4 h).join K4 (s4 hp) (s4 h2)
theorem gh:∀{l:List Nat} {i j x:Nat},l.Nodup→l[i]?=some x→l[j]?=some x→i=j
 | [],i,j,x,_,h,_=>by simp at h
 |a::l,0,0,x,_,_,_=>rfl
 |a::l,0,j+1,x,nd,h,g=>by
  rw[aep]at h
  rw[adU]at g
  cases h
  exact absurd (aaf g) (aar.1 nd).1
 |a::l,i+1,0,x,nd,h,g=>by
  rw[aep]at g
  rw[adU]at h
  cases g
  exact absurd (aaf h) (aar.1 nd).1
 |a::l,i+1,j+1,x,nd,h,g=>by
  rw[adU]at h g
  rw[gh (aar.1 nd).2 h g]
theorem LH:∀{l:List Nat} {k p:Nat},k≤l.length→p∉l→l.Nodup→(l.insertIdx k p).Nodup
 |l,0,p,_,hp,nd=>by
  rw[aet]
  exact aar.2 ⟨hp,nd⟩
 | [],k+1,p,h,_,_=>by simp at h
 |a::l,k+1,p,h,hp,nd=>by
  rw[aeU]
  have h2:k≤l.length:=by simpa using h
  refine aar.2 ⟨λhm=> ?_,LH h2 (λg=>hp (aag _ g)) (aar.1 nd).2⟩
  rcases FL h2 hm with e|e
  ·exact hp (by rw[←e];exact aai)
  exact(aar.1 nd).1 e
theorem Gc{l:List Nat}{k p m x:Nat}(hk:k≤l.length)(h:(l.insertIdx k p)[m]?=some x):m<k∧l[m]?=some x∨m=k∧x=p∨k<m∧l[m-1]?=some x:=by
 rw[aee]at h
 by_cases h1:m<k
 ·rw[if_pos h1]at h;exact .inl ⟨h1,h⟩
 rw[if_neg h1]at h
 by_cases h2:m=k
 ·rw[if_pos h2,if_pos (by omega)]at h
  cases h
  exact .inr (.inl ⟨h2,rfl⟩)
 rw[if_neg h2]at h
 exact .inr (.inr ⟨by omega,h⟩)
theorem Tz{l:List Nat}{k p m:Nat}(hk:k≤l.length):(l.insertIdx k p)[m]?=if m<k then l[m]? else if m=k then some p else l[m-1]?:=by
 rw[aee]
 by_cases h1:m<k
 ·rw[if_pos h1,if_pos h1]
 rw[if_neg h1,if_neg h1]
 by_cases h2:m=k
 ·rw[if_pos h2,if_pos h2,if_pos (by omega)]
 rw[if_neg h2,if_neg h2]
theorem hZ.m1{C:Cs}{Q:List (List Nat)}(O:hZ C Q){i k x:Nat}(h:(ql Q i)[k]?=some x):rd C.A (x+4) 4=nO (pv (ql Q i) k):=by
 obtain⟨h1,h2⟩:=aad.1 h
 rw[←h2];exact O.l1 i k h1
theorem hZ.m2{C:Cs}{Q:List (List Nat)}(O:hZ C Q){i k x:Nat}(h:(ql Q i)[k]?=some x):rd C.A (x+8) 4=nO (ql Q i)[k+1]?:=by
 obtain⟨h1,h2⟩:=aad.1 h
 rw[←h2];exact O.l2 i k h1
theorem o5{l:List Nat}{k x:Nat}(h:pv l k=some x):x∈l:=by
 rcases k with _|k
 ·cases h
 exact aaf h
theorem hZ.J7{C:Cs}{Q:List (List Nat)}(O:hZ C Q){i:Nat}{o:Option Nat}(h:∀x,o=some x→x∈ql Q i):gv C o:=λx hx=>⟨O.lv i x (h x hx),O.it i x (h x hx)⟩
theorem hZ.one{C:Cs}{Q:List (List Nat)}(O:hZ C Q){i j x:Nat}(h:x∈ql Q i)(g:x∈ql Q j):i=j:=by
 rw[(O.st i x h).2.2,(O.st j x g).2.2]
theorem XV{C:Cs}(K:Ok C){Q:List (List Nat)}(O:hZ C Q){p s k i:Nat}(ei:i=qi (C.cl p) s)(hi:i<Q.length)(hs:1≤s∧s≤3)(hk:k≤(ql Q i).length)(P:gv C (some p))(hn:¬(1≤ij C.A p∧ij C.A p≤3)):
  hZ (C.wA (ko C.A p s (pv (ql Q i) k) (ql Q i)[k]?)) (Q.set i ((ql Q i).insertIdx k p)):=by
 have no:∀j,p∉ql Q j:=λj h=>hn ⟨(O.st j p h).1,(O.st j p h).2.1⟩
 have LP:=(P p rfl).1
 have I1:gv C (pv (ql Q i) k):=O.J7 λx hx=>o5 hx
 have I2:gv C (ql Q i)[k]?:=O.J7 λx hx=>aaf hx
 have d1:pv (ql Q i) k≠some p:=λh=>no i (o5 h)
 have d2:(ql Q i)[k]?≠some p:=λh=>no i (aaf h)
 have hm:∀j x,x∈ql (Q.set i ((ql Q i).insertIdx k p)) j→j=i∧x=p∨x≠p∧x∈ql Q j:=λj x hx=>by
  rw[eZ hi]at hx
  split at hx
  ·next e=>
   rcases FL hk hx with g|g
   ·exact .inl ⟨e,g⟩
   exact .inr ⟨λz=>no i (by rw[←z];exact g),by rw[e];exact g⟩
  next e=>exact .inr ⟨λz=>no j (by rw[←z];exact hx),hx⟩
 have QW:∀j x,x∈ql (Q.set i ((ql Q i).insertIdx k p)) j→gv C (some x):=λj x hx y hy=>by
  cases hy
  rcases hm j _ hx with⟨_,rfl⟩|⟨_,h⟩
  ·exact P _ rfl
  exact⟨O.lv j _ h,O.it j _ h⟩
 have kp:=λj x hx=>HR K (s:=s) P I1 I2 (QW j x hx)
 refine⟨?_,λj x hx=>(kp j x hx x rfl).1,λj x hx=>(kp j x hx x rfl).2,λj x hx=> ?_,λj=> ?_,λj m h=> ?_,λj m h=> ?_⟩
 ·rw[aaj];exact O.len
 ·show 1≤ij (ko _ _ _ _ _) x∧_∧j=qi (C.cl x) _
  rw[cg,XU K (QW j x hx x rfl).1 LP I1.lv I2.lv (by omega)]
  rcases hm j x hx with⟨rfl,rfl⟩|⟨h1,h2⟩
  ·rw[if_pos rfl];exact⟨hs.1,hs.2,ei⟩
  rw[if_neg h1];exact O.st j x h2
 ·rw[eZ hi]
  split
  ·exact LH hk (no i) (O.nd i)
  exact O.nd j
 ·have hx:(ql (Q.set i ((ql Q i).insertIdx k p)) j)[m]?=some (ql (Q.set i ((ql Q i).insertIdx k p)) j)[m]:=aac h
  generalize (ql (Q.set i ((ql Q i).insertIdx k p)) j)[m]=x at hx⊢
  have Cn:=aaf hx
  have r:=XX K (s:=s) (QW j x Cn x rfl).1 LP I1.lv I2.lv d2
  rw[cg]
  refine r.trans ?_
  rw[eZ hi]at hx⊢
  split at hx
  ·next e=>
   subst e
   rw[if_pos rfl]
   have hml:m<((ql Q j).insertIdx k p).length:=(aad.1 hx).1
   rw[XE _ _ _ _ hk hml]
   rcases Gc hk hx with⟨h1,h2⟩|⟨h1,h2⟩|⟨h1,h2⟩
   ·have g1:x≠p:=λz=>no j (by rw[←z];exact aaf h2)
    have g2:(ql Q j)[k]?≠some x:=λz=>by have:=gh (O.nd j) z h2;omega
    rw[if_neg g1,if_neg g2,O.m1 h2]
    rcases m with _|m
    ·rfl
    rw[if_neg (by omega),if_pos (by omega)];rfl
   ·rw[if_pos h2]
    subst h1
    rcases m with _|m
    ·rfl
    rw[if_neg (by omega),if_pos (by omega)];rfl
   have g1:x≠p:=λz=>no j (by rw[←z];exact aaf h2)
   rw[if_neg g1,if_neg (show¬m=0 by omega),if_neg (show¬m-1<k by omega)]
   by_cases g:m-1=k
   ·rw[if_pos g,if_pos (by rw[←g];exact h2)]
   have g2:(ql Q j)[k]?≠some x:=λz=>by have:=gh (O.nd j) z h2;omega
   rw[if_neg g2,if_neg g,O.m1 h2]
   obtain⟨u,rfl⟩:∃u,m=u+2:=⟨m-2,by omega⟩
   rfl
  next e=>
  rw[if_neg e]
  have hj:=aaf hx
  have g1:x≠p:=λz=>no j (by rw[←z];exact hj)
  have g2:(ql Q i)[k]?≠some x:=λz=>e (O.one hj (aaf z))
  rw[if_neg g1,if_neg g2,O.m1 hx]
 have hx:(ql (Q.set i ((ql Q i).insertIdx k p)) j)[m]?=some (ql (Q.set i ((ql Q i).insertIdx k p)) j)[m]:=aac h
 generalize (ql (Q.set i ((ql Q i).insertIdx k p)) j)[m]=x at hx⊢
 have Cn:=aaf hx
 have r:=XW K (s:=s) (QW j x Cn x rfl).1 LP I1.lv I2.lv d1
 rw[cg]
 refine r.trans ?_
 rw[eZ hi]at hx⊢
 split at hx
 ·next e=>
  subst e
  rw[if_pos rfl,Tz hk]
  rcases Gc hk hx with⟨h1,h2⟩|⟨h1,h2⟩|⟨h1,h2⟩
  ·have g1:x≠p:=λz=>no j (by rw[←z];exact aaf h2)
   rw[if_neg g1]
   by_cases g:m+1=k
   ·subst g
    rw[if_pos (show pv (ql Q j) (m+1)=some x from h2),if_neg (by omega),if_pos rfl]
   have g2:pv (ql Q j) k≠some x:=λz=>by
    rcases k with _|k
    ·omega
    have:=gh (O.nd j) z h2;omega
   rw[if_neg g2,if_pos (by omega),O.m2 h2]
  ·rw[if_pos h2,if_neg (by omega),if_neg (by omega),show m+1-1=k by omega]
  have g1:x≠p:=λz=>no j (by rw[←z];exact aaf h2)
  have g2:pv (ql Q j) k≠some x:=λz=>by
    rcases k with _|k
    ·cases z
    have:=gh (O.nd j) z h2;omega
  rw[if_neg g1,if_neg g2,if_neg (by omega),if_neg (by omega),O.m2 h2,show m-1+1=m+1-1 by omega]
 next e=>
 rw[if_neg e]
 have hj:=aaf hx
 have g1:x≠p:=λz=>no j (by rw[←z];exact hj)
 have g2:pv (ql Q i) k≠some x:=λz=>e (O.one hj (o5 z))
 rw[if_neg g1,if_neg g2,O.m2 hx]
def cI (C:Cs)(A B:By)(S:Nat→Nat→Prop):Prop:=∀i,B i≠A i→∃q o,At C q∧o<C.sz (C.cl q)∧S q o∧i=q+o
theorem cI.refl (C:Cs)(A:By)(S:Nat→Nat→Prop):cI C A A S:=λ_ h=>absurd rfl h
theorem cI.trans{C:Cs}{A B D:By}{S:Nat→Nat→Prop}(h:cI C A B S)(g:cI C B D S):cI C A D S:=λi e=>by
 by_cases hb:B i=A i
 ·exact g i (by rw[hb];exact e)
 exact h i hb
theorem cI.mono{C:Cs}{A B:By}{S R:Nat→Nat→Prop}(h:cI C A B S)(s:∀q o,S q o→R q o):cI C A B R:=λi e=>by
 obtain⟨q,o,h1,h2,h3,h4⟩:=h i e
 exact⟨q,o,h1,h2,s q o h3,h4⟩
theorem cI.wA{C:Cs}{A B D:By}{S:Nat→Nat→Prop}(h:cI (C.wA D) A B S):cI C A B S:=λi e=>by
 obtain⟨q,o,h1,h2,h3,h4⟩:=h i e
 exact⟨q,o,⟨h1.i,h1.own,h1.al,h1.k⟩,h2,h3,h4⟩
theorem uh{C:Cs}(A:By){S:Nat→Nat→Prop}{q a n v:Nat}(M:At C q)(ha:a+n≤C.sz (C.cl q))(h:∀j,a≤j→j<a+n→S q j):cI C A (wr A (q+a) n v) S:=λi e=>by
 have hr:q+a≤i∧i<q+a+n:=by
  refine aak λg=>e ?_
  unfold wr
  exact fy _ _ _ _ (by rw[kM];omega)
 exact⟨q,i-q,M,by omega,h _ (by omega) (by omega),by omega⟩
theorem xd{C:Cs}{A B:By}{S:List Nat}{a n:Nat}(d:oh A B S a n)(hS:∀q∈S,At C q)(ha:∀q∈S,a+n≤C.sz (C.cl q)):cI C A B (λq o=>q∈S∧a≤o∧o<a+n):=λi e=>by
 obtain⟨q,q1,q2,q3⟩:=d i e
 have:=ha q q1
 exact⟨q,i-q,hS q q1,by omega,⟨q1,by omega,by omega⟩,by omega⟩
theorem so{C:Cs}(K:Ok C){A B:By}{S:Nat→Nat→Prop}(d:cI C A B S){p o w:Nat}(L:At C p)(ho:o+w≤C.sz (C.cl p))(h:∀j,o≤j→j<o+w→¬S p j):iC B (p+o) w=iC A (p+o) w:=
 rG λi h1 h2=>by
  refine aak λe=> ?_
  obtain⟨q,j,q1,q2,q3,q4⟩:=d i e
  by_cases e2:p=q
  ·subst e2
   exact h j (by omega) (by omega) q3
  ·rcases apart K L q1 e2 with g|g<;>omega
theorem ke{C:Cs}(K:Ok C){A B:By}{S:Nat→Nat→Prop}(d:cI C A B S){p o w:Nat}(L:At C p)(ho:o+w≤C.sz (C.cl p))(h:∀j,o≤j→j<o+w→¬S p j):rd B (p+o) w=rd A (p+o) w:=by
 unfold rd;rw[so K d L ho h]
def k7 (o:Nat):Prop:=o<16∨32≤o∧o<44∨o=45∨o=46
theorem pf{C:Cs}(K:Ok C){B:By}{S:Nat→Nat→Prop}(d:cI C C.A B S){p:Nat}(L:At C p)(I:gC C p)(h:∀j,S p j→k7 j):Kept C B p:=by
 have n1:=(L.aX K).2.1
 have hf:=I.fits
 have r:=λ(o w:Nat) (h2:o+w≤C.sz (C.cl p)) (h3:∀j,o≤j→j<o+w→¬k7 j)=>ke K d L h2 (λj g1 g2 s=>h3 j g1 g2 (h j s))
 have e1:kl B p=kl C.A p:=r 44 1 (by omega) (λj g1 g2=>by unfold k7;omega)
 have e2:vl B p=vl C.A p:=r 48 4 (by omega) (λj g1 g2=>by unfold k7;omega)
 refine⟨e1,e2, ?_,λJ=>⟨?_, ?_, ?_, ?_⟩⟩
 ·unfold aE
  rw[e1]
  exact so K d L (by omega) (λj g1 g2 s=>by have:=h j s;unfold k7 at this;omega)
 ·rw[cg,e1];exact J.k0
 ·rw[cg,e1,e2];exact J.fits
 ·rw[cg,r 16 8 (by omega) (λj g1 g2=>by unfold k7;omega)];exact J.exp
 rw[cg,r 24 8 (by omega) (λj g1 g2=>by unfold k7;omega)];exact J.tch
theorem UW{C:Cs}(K:Ok C){B:By}{S:Nat→Nat→Prop}(d:cI C C.A B S):∀{l:List Nat},(∀p∈l,At C p∧∀j,j<4→¬S p j)→CA C.A l→CA B l
 | [],_,_=>trivial
 |p::l,h,g=>by
  obtain⟨L,hp⟩:=h p aai
  refine⟨?_,UW K d (λq hq=>h q (aag _ hq)) g.2⟩
  have:=ke K d L (o:=0) (w:=4) (by have:=(L.aX K).2.1;omega) (λj _ g2=>hp j (by omega))
  rw[←g.1];exact this
theorem GO{C:Cs}(K:Ok C){W:Tb}(O:cD C W){B:By}{S:Nat→Nat→Prop}(d:cI C C.A B S)(h:∀p∈W.all,∀j,S p j→k7 j∧4≤j):cD (C.wA B) W:=by
 have kp:=λp (hp:p∈W.all)=>pf K d (O.lv p hp).toAt (O.it p hp) (λj s=>(h p hp j s).1)
 refine⟨O.pw,O.po,O.st,O.mp,O.sz,O.J5,O.sm,O.mv,O.n,O.nd,λx=> ?_,λp hp=>(O.lv p hp).wA B,λp hp=>(kp p hp).it (O.it p hp),λx p hp=> ?_,λp hp q hq e=> ?_⟩
 ·refine UW K d (λp hp=> ?_) (O.li x)
  have dT:=Tb.fD hp
  exact⟨(O.lv p dT).toAt,λj hj s=>by have:=(h p dT j s).2;omega⟩
 ·show W.bk (bJ (aE B p))=x
  rw[(kp p (Tb.fD hp)).key];exact O.bu x p hp
 change aE B p=aE B q at e
 rw[(kp p hp).key,(kp q hq).key]at e
 exact O.kd p hp q hq e
theorem Ko{C:Cs}(K:Ok C){Q:List (List Nat)}(O:hZ C Q){B:By}{S:Nat→Nat→Prop}(d:cI C C.A B S)(h:∀i,∀p∈ql Q i,∀j,S p j→k7 j∧(j<4∨12≤j)∧j≠45):hZ (C.wA B) Q:=by
 have kp:=λi p (hp:p∈ql Q i)=>pf K d (O.lv i p hp).toAt (O.it i p hp) (λj s=>(h i p hp j s).1)
 have n1:=λi p (hp:p∈ql Q i)=>((O.lv i p hp).toAt.aX K).2.1
 refine⟨O.len,λi p hp=>(O.lv i p hp).wA B,λi p hp=>(kp i p hp).it (O.it i p hp),λi p hp=> ?_,O.nd,λi k hk=> ?_,λi k hk=> ?_⟩
 ·have:=n1 i p hp
  have e:ij B p=ij C.A p:=ke K d (O.lv i p hp).toAt (by omega) (λj g1 g2 s=>(h i p hp j s).2.2 (by omega))
  show 1≤ij B p∧_
  rw[cg,e];exact O.st i p hp
 ·have hp:=aam hk
  have:=n1 i _ hp
  rw[cg,ke K d (O.lv i _ hp).toAt (by omega) (λj g1 g2 s=>by have:=(h i _ hp j s).2.1;omega)];exact O.l1 i k hk
 have hp:=aam hk
 have:=n1 i _ hp
 rw[cg,ke K d (O.lv i _ hp).toAt (by omega) (λj g1 g2 s=>by have:=(h i _ hp j s).2.1;omega)];exact O.l2 i k hk
def SQ (p:Nat)(_q o:Nat):Prop:=4≤o∧o<12∨o=45∧_q=p
theorem Rj{C:Cs}(K:Ok C)(A:By){S:Nat→Nat→Prop}(hS:∀q o,4≤o→o<12→S q o){o1 o2:Option Nat}(L1:cz C o1)(L2:cz C o2):cI C A (wR A o1 o2) S:=by
 have w:=λ(A:By) (q:Nat) (M:Live C q) (j v:Nat) (hj:1≤j∧j≤2)=>uh (S:=S) A (a:=4*j) (n:=4) (v:=v) M.toAt (by have:=(M.toAt.aX K).2.1;omega) (λi g1 g2=>hS q i (by omega) (by omega))
 rcases o1 with _|a<;>rcases o2 with _|e
 ·exact cI.refl _ _ _
 ·exact w A e (L2 e rfl) 1 _ (by omega)
 ·exact w A a (L1 a rfl) 2 _ (by omega)
 exact(w A a (L1 a rfl) 2 _ (by omega)).trans (w _ e (L2 e rfl) 1 _ (by omega))
theorem ab8{C:Cs}(K:Ok C){p s:Nat}(L:Live C p){o1 o2:Option Nat}(L1:cz C o1)(L2:cz C o2):cI C C.A (ko C.A p s o1 o2) (SQ p):=by
 have n1:=(L.toAt.aX K).2.1
 have w:=λ(A:By) (j v:Nat) (hj:1≤j∧j≤2)=>uh (S:=SQ p) A (a:=4*j) (n:=4) (v:=v) L.toAt (by omega) (λi g1 g2=> .inl ⟨by omega,by omega⟩)
 have w2:=λ(A:By) (v:Nat)=>uh (S:=SQ p) A (a:=45) (n:=1) (v:=v) L.toAt (by omega) (λi g1 g2=> .inr ⟨by omega,rfl⟩)
 have hp:cz C (some p):=λq h=>by cases h;exact L
 have hS:∀q o,4≤o→o<12→SQ p q o:=λq o h1 h2=> .inl ⟨h1,h2⟩
 have d1:cI C C.A (jF C.A p s o1 o2) (SQ p):=((w C.A 1 (nO o1) (by omega)).trans (w _ 2 (nO o2) (by omega))).trans (w2 _ s)
 exact(d1.trans (Rj K _ hS L1 hp)).trans (Rj K _ hS hp L2)
theorem tH (C:Cs)(cs:List Value)(i:Nat)(o1 o2:Option Nat):(oJ C cs i o1 o2).length=cs.length:=by
 rcases o1 with _|a<;>rcases o2 with _|e<;>simp[oJ]
theorem KH (C:Cs)(cs:List Value)(i:Nat)(o1 o2:Option Nat):(oJ C cs i o1 o2)[i*3+2]?=cs[i*3+2]?:=by
 rcases o1 with _|a<;>rcases o2 with _|e<;>simp[oJ,List.getElem?_set]
theorem yb{C:Cs}(K:Ok C){Q:List (List Nat)}(O:hZ C Q)(i:Nat):(ql Q i).length≤1073741824:=
 lE _ _ (O.nd i) λp hp=>by
  have h:=(O.lv i p hp).toAt.aX K
  have:=fC K.toFix
  omega
theorem LK (C:Cs)(Q:List (List Nat)):(Q.flatMap (dR C)).length=Q.length*3:=by
 rw[Ah]
 induction Q with
 |nil=>rfl
 |cons a l ih=>rw[List.map_cons,List.flatMap_cons,List.length_append,ih,uJ,adm];omega
structure Wu (C:Cs)(p:Nat)(A:By)(Q:List (List Nat)):Prop where
 o:hZ (C.wA A) Q
 d:cI C C.A A (SQ p)
theorem AK (q b qb:Nat)(C:Cs)(K:Ok C)(Q:List (List Nat))(O:hZ C Q)(p s:Nat)(hs:1≤s∧s≤3)(P:gv C (some p))(hn:¬(1≤ij C.A p∧ij C.A p≤3)):
  aF aaa 231 [.pointer (some ⟨q,0,none⟩), .int .u64 (C.hd p:Int), .int .i64 (s:Int)] (λ_=>True) (Cl b C::qO q b qb C Q)
   (λv H=>v= .int .i64 0∧∃A,H=Cl b (C.wA A)::qO q b qb (C.wA A) (Q.set (qi (C.cl p) s) (p::ql Q (qi (C.cl p) s)))∧Wu C p A (Q.set (qi (C.cl p) s) (p::ql Q (qi (C.cl p) s)))):=by
 have L:=(P p rfl).1
 have k0:=P.kl p rfl
 have hc:=(L.toAt.aX K).1
 have hi:=mz O hc hs
 generalize hii:qi (C.cl p) s=i at*
 have I2:gv C (ql Q i)[0]?:=O.J7 λx hx=>aaf hx
 have I1:gv C none:=λx hx=>by cases hx
 have ok:=XV K O hii.symm hi hs (k:=0) (by omega) P hn
 have ce:=HQ C Q i 0 p hi (by omega)
 have hlen:=LK C Q
 have k0c:=nH (C:=C) (Q:=Q) (j:=0) hi rfl
 have k2c:=nH (C:=C) (Q:=Q) (j:=2) hi rfl
 have d:=ab8 K (p:=p) (s:=s) L I1.lv I2.lv
 have lay:=Si q b qb C.ae.length (ql Q i).length C K (Q.flatMap (dR C)) i (by omega) p s hs none (ql Q i)[0]? P I1 I2 (by rw[KH,KH];exact k2c) (by rw[tH,tH]) (tH _ _ _ _ _) (yb K O i)
 have e0:(ql Q i).head?=(ql Q i)[0]?:=aej ..
 rw[e0]at k0c
 change hZ (C.wA (ko C.A p s none (ql Q i)[0]?)) _ at ok
 rw[aet]at ok ce
 change((oJ C (oJ C (Q.flatMap (dR C)) i none (some p)) i (some p) (ql Q i)[0]?).set (i*3+2) _)=_ at ce
 rw[ce]at lay
 unfold qO
 generalize iE:Q.flatMap (dR C)=cs at*
 unfold fj at*
 refine af func231 rfl ntmps231 rfl ?_
 intro F _
 refine bL ?_
 refine zl T.YF (NZ q b qb C K p s hs L k0 hn) .nil (λ_ le aq=>⟨aq.1,aq.2.1⟩) ?_
 rw[hii]
 refine bW ?_
 refine aA ?_
 refine zl T.YE (lay) (.cons .here (.cons .here (.cons .here .nil))) (λ_ _ _=>trivial) ?_
 refine bD ?_
 refine Rt [Cl b (C.wA (ko C.A p s none (ql Q i)[0]?)),ag q 139 [.pointer (some ⟨b,0,none⟩), .slice (some ⟨qb,0,none⟩) C.ae.length C.ae.length],ag qb 327 ((Q.set i (p::ql Q i)).flatMap (dR C))] results231 ?_
 exact⟨rfl,ko C.A p s none (ql Q i)[0]?,rfl,ok,d⟩
theorem sg{C:Cs}(K:Ok C){B:By}{S:Nat→Nat→Prop}(d:cI C C.A B S){o:Option Nat}(P:gv C o)(h:∀x,o=some x→∀j,S x j→k7 j):gv (C.wA B) o:=λx hx=>
 ⟨(P x hx).1.wA B,(pf K d (P x hx).1.toAt (P x hx).2 (h x hx)).it (P x hx).2⟩
theorem SQ.p7{p q o:Nat}(h:SQ p q o):k7 o:=by
 unfold SQ at h
 unfold k7
 omega
def ni (A:By)(p:Nat):By:=wr (wr (wr A (p+4*1) 4 (nO none)) (p+4*2) 4 (nO none)) (p+45) 1 4
theorem Ey (C:Cs)(Q:List (List Nat))(i k:Nat)(hi:i<Q.length)(h:k<(ql Q i).length):
  (oJ C (Q.flatMap (dR C)) i (pv (ql Q i) k) (ql Q i)[k+1]?).set (i*3+2) (.int .i64 (((ql Q i).length:Int)-1))=(Q.set i ((ql Q i).eraseIdx k)).flatMap (dR C):=by
 have hq:(Q.map (GF C))[i]?=some (GF C (ql Q i)):=by
  unfold ql
  rw[aap,aab,aac hi];rfl
 have zP:i<(Q.map (GF C)).length:=by simpa using hi
 have s2:∀(S:List T3) (y:T3) (v:Value),S[i]?=some y→(S.flatMap t3).set (i*3+2) v=(S.set i {y with c:=v}).flatMap t3:=λS y v hs=>cq uJ hs rfl (by decide)
 generalize hl:ql Q i=l at*
 have e:{ZJ C (GF C l) (pv l k) l[k+1]? with c:= .int .i64 ((l.length:Int)-1)}=GF C (l.eraseIdx k):=by
  have hlen:=List.length_eraseIdx_of_lt h
  have h1:(l.eraseIdx k).head?=if k=0 then l[k+1]? else l.head?:=by
   rw[aej,aej]
   split
   ·next e=>subst e;rw[aaE (by omega)]
   next e=>rw[aaJ (by omega)]
  have h2:(l.eraseIdx k).getLast?=if k+1=l.length then pv l k else l.getLast?:=by
   rw[adW,adW,hlen]
   split
   ·next e=>
    rcases k with _|k
    ·rw[aat (by omega)];rfl
    rw[aaJ (by omega),show l.length-1-1=k by omega];rfl
   next e=>rw[aaE (by omega),show l.length-1-1+1=l.length-1 by omega]
  unfold GF
  rw[h1,h2,hlen,show(((l.length-1:Nat)):Int)=(l.length:Int)-1 by omega]
  rcases k with _|k
  ·by_cases e:0+1<l.length
   ·rw[aac e,if_pos rfl,if_neg (by omega)];rfl
   rw[aat (by omega),if_pos rfl,if_pos (by omega)];rfl
  have e1:pv l (k+1)=some l[k]:=aac (by omega)
  by_cases e:k+1+1<l.length
  ·rw[e1,aac e,if_neg (by omega),if_neg (by omega)];rfl
  rw[e1,aat (by omega),if_neg (by omega),if_pos (by omega)];rfl
 rw[Ah,Ah,KG C _ i _ hq,s2 _ _ _ (aah zP),adw,e,adF]
def kL (A:By)(p:Nat)(o1 o2:Option Nat):By:=ni (wR A o1 o2) p
theorem T9{C:Cs}(K:Ok C){x p:Nat}{o1 o2:Option Nat}(X:Live C x)(P:Live C p)(L1:cz C o1)(L2:cz C o2):
  rd (kL C.A p o1 o2) (x+4*1) 4=if x=p then 0 else if o2=some x then nO o1 else rd C.A (x+4*1) 4:=by
 have b1:=mA K L1
 have b2:=mA K L2
 have l:=λ(q:Nat) (M:Live C q) (A:By) (j v:Nat) (hj:j≤2) (hv:v<4294967296)=>tz K X.toAt M.toAt A (i:=1) (j:=j) (v:=v) (by omega) hj hv
 have z:=λ(A:By)=>qw K X.toAt P.toAt A (i:=1) (v:=4) (by omega)
 have n0:nO none<4294967296:=by decide
 unfold kL ni
 rw[z,l p P _ 2 _ (by omega) n0,l p P _ 1 _ (by omega) n0]
 by_cases h:x=p
 ·simp[h,nO]
 rw[if_neg (by simp[h]),if_neg (by simp[h]),if_neg h]
 rcases o1 with _|a<;>rcases o2 with _|e<;>dsimp only[wR]
 ·simp
 ·rw[l e (L2 e rfl) _ 1 _ (by omega) b1]
  by_cases g:x=e
  ·subst g;simp
  have g2:¬e=x:=λu=>g u.symm
  simp[g,g2]
 ·rw[l a (L1 a rfl) _ 2 _ (by omega) b2]
  simp
 rw[l e (L2 e rfl) _ 1 _ (by omega) b1,l a (L1 a rfl) _ 2 _ (by omega) b2]
 by_cases g:x=e
 ·subst g;simp
 have g2:¬e=x:=λu=>g u.symm
 simp[g,g2]
theorem T8{C:Cs}(K:Ok C){x p:Nat}{o1 o2:Option Nat}(X:Live C x)(P:Live C p)(L1:cz C o1)(L2:cz C o2):
  rd (kL C.A p o1 o2) (x+4*2) 4=if x=p then 0 else if o1=some x then nO o2 else rd C.A (x+4*2) 4:=by
 have b1:=mA K L1
 have b2:=mA K L2
 have l:=λ(q:Nat) (M:Live C q) (A:By) (j v:Nat) (hj:j≤2) (hv:v<4294967296)=>tz K X.toAt M.toAt A (i:=2) (j:=j) (v:=v) (by omega) hj hv
 have z:=λ(A:By)=>qw K X.toAt P.toAt A (i:=2) (v:=4) (by omega)
 have n0:nO none<4294967296:=by decide
 unfold kL ni
 rw[z,l p P _ 2 _ (by omega) n0,l p P _ 1 _ (by omega) n0]
 by_cases h:x=p
 ·simp[h,nO]
 rw[if_neg (by simp[h]),if_neg (by simp[h]),if_neg h]
 rcases o1 with _|a<;>rcases o2 with _|e<;>dsimp only[wR]
 ·simp
 ·rw[l e (L2 e rfl) _ 1 _ (by omega) b1]
  simp
 ·rw[l a (L1 a rfl) _ 2 _ (by omega) b2]
  by_cases g:x=a
  ·subst g;simp
  have g2:¬a=x:=λu=>g u.symm
  simp[g,g2]
 rw[l e (L2 e rfl) _ 1 _ (by omega) b1,l a (L1 a rfl) _ 2 _ (by omega) b2]
 by_cases g:x=a
 ·subst g;simp
 have g2:¬a=x:=λu=>g u.symm
 simp[g,g2]
theorem Gj{C:Cs}(K:Ok C){x p:Nat}{o1 o2:Option Nat}(X:Live C x)(P:Live C p)(L1:cz C o1)(L2:cz C o2):
  ij (kL C.A p o1 o2) x=if x=p then 4 else ij C.A x:=by
 have l:=λ(q:Nat) (M:Live C q) (A:By) (j v:Nat) (hj:j≤2)=>Fk K X.toAt M.toAt A (j:=j) (v:=v) hj
 have z:=λ(A:By)=>UL K X.toAt P.toAt A (v:=4) (by omega)
 unfold kL ni
 rw[z,l p P _ 2 _ (by omega),l p P _ 1 _ (by omega)]
 rcases o1 with _|a<;>rcases o2 with _|e<;>dsimp only[wR]
 ·rw[l e (L2 e rfl) _ 1 _ (by omega)]
 ·rw[l a (L1 a rfl) _ 2 _ (by omega)]
 rw[l e (L2 e rfl) _ 1 _ (by omega),l a (L1 a rfl) _ 2 _ (by omega)]
theorem ML{C:Cs}(K:Ok C){p:Nat}(L:Live C p){o1 o2:Option Nat}(L1:cz C o1)(L2:cz C o2):cI C C.A (kL C.A p o1 o2) (SQ p):=by
 have n1:=(L.toAt.aX K).2.1
 have w:=λ(A:By) (j v:Nat) (hj:1≤j∧j≤2)=>uh (S:=SQ p) A (a:=4*j) (n:=4) (v:=v) L.toAt (by omega) (λi g1 g2=> .inl ⟨by omega,by omega⟩)
 have w2:=λ(A:By) (v:Nat)=>uh (S:=SQ p) A (a:=45) (n:=1) (v:=v) L.toAt (by omega) (λi g1 g2=> .inr ⟨by omega,rfl⟩)
 have hS:∀q o,4≤o→o<12→SQ p q o:=λq o h1 h2=> .inl ⟨h1,h2⟩
 exact(((Rj K _ hS L1 L2).trans (w _ 1 (nO none) (by omega))).trans (w _ 2 (nO none) (by omega))).trans (w2 _ 4)
theorem get_erase{l:List Nat}{k m x:Nat}(h:(l.eraseIdx k)[m]?=some x):m<k∧l[m]?=some x∨k≤m∧l[m+1]?=some x:=by
 by_cases h1:m<k
 ·rw[aaJ h1]at h;exact .inl ⟨h1,h⟩
 rw[aaE (by omega)]at h;exact .inr ⟨by omega,h⟩
theorem T6{C:Cs}(K:Ok C){Q:List (List Nat)}(O:hZ C Q){p k i:Nat}(hi:i<Q.length)(hk:(ql Q i)[k]?=some p):
  hZ (C.wA (kL C.A p (pv (ql Q i) k) (ql Q i)[k+1]?)) (Q.set i ((ql Q i).eraseIdx k)):=by
 have cB:=(aad.1 hk).1
 have hpl:=aaf hk
 have LP:=O.lv i p hpl
 have I1:gv C (pv (ql Q i) k):=O.J7 λx hx=>o5 hx
 have I2:gv C (ql Q i)[k+1]?:=O.J7 λx hx=>aaf hx
 have d:=ML K LP I1.lv I2.lv
 have hm:∀j x,x∈ql (Q.set i ((ql Q i).eraseIdx k)) j→x≠p∧x∈ql Q j:=λj x hx=>by
  rw[eZ hi]at hx
  split at hx
  ·next e=>
   subst e
   refine⟨λz=> ?_,List.mem_of_mem_eraseIdx hx⟩
   subst z
   obtain⟨m,hm,em⟩:=List.getElem_of_mem hx
   have:=aad.2 ⟨hm,em⟩
   rcases get_erase this with⟨h1,h2⟩|⟨h1,h2⟩
   ·have:=gh (O.nd j) hk h2;omega
   have:=gh (O.nd j) hk h2;omega
  next e=>exact⟨λz=>e (O.one hx (by rw[z];exact hpl)),hx⟩
 have QW:∀j x,x∈ql (Q.set i ((ql Q i).eraseIdx k)) j→gv C (some x):=λj x hx y hy=>by
  cases hy
  exact⟨O.lv j _ (hm j _ hx).2,O.it j _ (hm j _ hx).2⟩
 have kp:=λj x hx=>sg K d (QW j x hx) (λy _ j s=>s.p7)
 refine⟨?_,λj x hx=>(kp j x hx x rfl).1,λj x hx=>(kp j x hx x rfl).2,λj x hx=> ?_,λj=> ?_,λj m h=> ?_,λj m h=> ?_⟩
 ·rw[aaj];exact O.len
 ·show 1≤ij (kL _ _ _ _) x∧_∧j=qi (C.cl x) _
  rw[cg,Gj K (QW j x hx x rfl).1 LP I1.lv I2.lv,if_neg (hm j x hx).1];exact O.st j x (hm j x hx).2
 ·rw[eZ hi]
  split
  ·exact(O.nd i).sublist (List.eraseIdx_sublist _ _)
  exact O.nd j
 ·have hx:(ql (Q.set i ((ql Q i).eraseIdx k)) j)[m]?=some (ql (Q.set i ((ql Q i).eraseIdx k)) j)[m]:=aac h
  generalize (ql (Q.set i ((ql Q i).eraseIdx k)) j)[m]=x at hx⊢
  have Cn:=aaf hx
  have r:=T9 K (QW j x Cn x rfl).1 LP I1.lv I2.lv
  rw[if_neg (hm j x Cn).1]at r
  rw[cg]
  refine r.trans ?_
  rw[eZ hi]at hx⊢
  split at hx
  ·next e=>
   subst e
   rw[if_pos rfl]
   rcases get_erase hx with⟨h1,h2⟩|⟨h1,h2⟩
   ·have g2:(ql Q j)[k+1]?≠some x:=λz=>by have:=gh (O.nd j) z h2;omega
    rw[if_neg g2,O.m1 h2]
    rcases m with _|m
    ·rfl
    show _=nO ((ql Q j).eraseIdx k)[m]?
    rw[aaJ (by omega)];rfl
   by_cases g:m=k
   ·subst g
    rw[if_pos h2]
    rcases m with _|m
    ·rfl
    show _=nO ((ql Q j).eraseIdx (m+1))[m]?
    rw[aaJ (by omega)];rfl
   have g2:(ql Q j)[k+1]?≠some x:=λz=>by have:=gh (O.nd j) z h2;omega
   rw[if_neg g2,O.m1 h2]
   obtain⟨u,rfl⟩:∃u,m=u+1:=⟨m-1,by omega⟩
   show _=nO ((ql Q j).eraseIdx k)[u]?
   rw[aaE (by omega)];rfl
  next e=>
  rw[if_neg e]
  have hj:=aaf hx
  have g2:(ql Q i)[k+1]?≠some x:=λz=>e (O.one hj (aaf z))
  rw[if_neg g2,O.m1 hx]
 have hx:(ql (Q.set i ((ql Q i).eraseIdx k)) j)[m]?=some (ql (Q.set i ((ql Q i).eraseIdx k)) j)[m]:=aac h
 generalize (ql (Q.set i ((ql Q i).eraseIdx k)) j)[m]=x at hx⊢
 have Cn:=aaf hx
 have r:=T8 K (QW j x Cn x rfl).1 LP I1.lv I2.lv
 rw[if_neg (hm j x Cn).1]at r
 rw[cg]
 refine r.trans ?_
 rw[eZ hi]at hx⊢
 split at hx
 ·next e=>
  subst e
  rw[if_pos rfl]
  rcases get_erase hx with⟨h1,h2⟩|⟨h1,h2⟩
  ·by_cases g:m+1=k
   ·subst g
    rw[if_pos (show pv (ql Q j) (m+1)=some x from h2),aaE (by omega)]
   have g2:pv (ql Q j) k≠some x:=λz=>by
    rcases k with _|k
    ·cases z
    have:=gh (O.nd j) z h2;omega
   rw[if_neg g2,O.m2 h2,aaJ (by omega)]
  have g2:pv (ql Q j) k≠some x:=λz=>by
    rcases k with _|k
    ·cases z
    have:=gh (O.nd j) z h2;omega
  rw[if_neg g2,O.m2 h2,aaE (by omega)]
 next e=>
 rw[if_neg e]
 have hj:=aaf hx
 have g2:pv (ql Q i) k≠some x:=λz=>e (O.one hj (o5 z))
 rw[if_neg g2,O.m2 hx]
structure M8 (C:Cs)(p:Nat)(A:By)(Q:List (List Nat)):Prop extends Wu C p A Q where
 st:ij A p=4
 no:∀i,p∉ql Q i
theorem AL (q b qb:Nat)(C:Cs)(K:Ok C)(Q:List (List Nat))(O:hZ C Q)(i k p:Nat)(hk:(ql Q i)[k]?=some p):
  aF aaa 166 [.pointer (some ⟨q,0,none⟩), .int .u64 (C.hd p:Int)] (λ_=>True) (Cl b C::qO q b qb C Q)
   (λv H=>v= .int .i64 0∧∃A,H=Cl b (C.wA A)::qO q b qb (C.wA A) (Q.set i ((ql Q i).eraseIdx k))∧M8 C p A (Q.set i ((ql Q i).eraseIdx k))):=by
 have hpl:=aaf hk
 have P:gv C (some p):=O.J7 (i:=i) λx hx=>by cases hx;exact hpl
 have L:=(P p rfl).1
 have k0:=P.kl p rfl
 have hc:=(L.toAt.aX K).1
 obtain⟨s1,s2,s3⟩:=O.st i p hpl
 have hi:=mz O hc ⟨s1,s2⟩
 rw[←s3]at hi
 have I1:gv C (pv (ql Q i) k):=O.J7 λx hx=>o5 hx
 have I2:gv C (ql Q i)[k+1]?:=O.J7 λx hx=>aaf hx
 have ok:=T6 K O hi hk
 have d:=ML K L I1.lv I2.lv
 have dst:=Gj K L L I1.lv I2.lv
 rw[if_pos rfl]at dst
 have ce:=Ey C Q i k hi (aad.1 hk).1
 have hlen:=LK C Q
 have oN:∀j,p∉ql (Q.set i ((ql Q i).eraseIdx k)) j:=λj h=>by
  have:=(ok.st j p h).2.1
  rw[cg,dst]at this
  omega
 have hn2:(oJ C (Q.flatMap (dR C)) i (pv (ql Q i) k) (ql Q i)[k+1]?)[i*3+2]?=some (.int .i64 ((ql Q i).length:Int)):=by rw[KH];exact nH (j:=2) hi rfl
 have zO:=tH C (Q.flatMap (dR C)) i (pv (ql Q i) k) (ql Q i)[k+1]?
 have jn:=ve q b qb C.ae.length C K (Q.flatMap (dR C)) i (by omega) (pv (ql Q i) k) (ql Q i)[k+1]? I1.lv I2.lv I1.kl I2.kl (λx hx=>(I2 x hx).2)
 have lk1:=qz b C K p 1 (pv (ql Q i) k) L k0 (by omega) I1.lv (O.m1 hk)
 have lk2:=qz b C K p 2 (ql Q i)[k+1]? L k0 (by omega) I2.lv (O.m2 hk)
 have K1:=K.wA (wR C.A (pv (ql Q i) k) (ql Q i)[k+1]?)
 have hS:∀q o,4≤o→o<12→SQ p q o:=λq o h1 h2=> .inl ⟨h1,h2⟩
 have P1:gv (C.wA (wR C.A (pv (ql Q i) k) (ql Q i)[k+1]?)) (some p):=sg K (Rj K C.A hS I1.lv I2.lv) P (λ_ _ j s=>s.p7)
 have hA:kL C.A p (pv (ql Q i) k) (ql Q i)[k+1]?=ni (wR C.A (pv (ql Q i) k) (ql Q i)[k+1]?) p:=rfl
 rw[hA]at ok d dst
 have hql:=yb K O i
 generalize pv (ql Q i) k=o1 at*
 generalize (ql Q i)[k+1]?=o2 at*
 generalize wR C.A o1 o2=A1 at*
 have cB:=(aad.1 hk).1
 unfold qO
 generalize iE:Q.flatMap (dR C)=cs at*
 generalize oJ C cs i o1 o2=ds at*
 have Cp:i*3+2<ds.length:=by omega
 have k1p:gv (C.wA (wr A1 (p+4*1) 4 (nO none))) (some p):=P1.link K1 (P1 p rfl).1 (by omega)
 have k2p:gv (C.wA (wr (wr A1 (p+4*1) 4 (nO none)) (p+4*2) 4 (nO none))) (some p):=k1p.link (K.wA _) (k1p p rfl).1 (by omega)
 refine af func166 rfl ntmps166 rfl ?_
 intro F _
 refine bD ?_
 refine zl T.Di (vW q b qb C K p L k0 ⟨s1,s2⟩) .nil (λ_ le aq=>⟨aq.1,aq.2.1⟩) ?_
 rw[←s3]
 unfold fj at*
 refine qY ?_
 refine zl T.yK (lk1) .nil (λ_ le aq=>aq.1) ?_
 refine eC ?_
 refine zl T.yK (lk2) .nil (λ_ le aq=>aq.1) ?_
 refine bI ?_
 refine zl T.Dc (jn) (.cons .here (.cons .here (.cons .here .nil))) (λ_ _ _=>trivial) ?_
 refine bL ?_
 refine zl T.jK (db b (C.wA A1) K1 p 1 none (P1 p rfl).1 (P1.kl p rfl) (by omega) (λq h=>by cases h)) (.cons .here .nil) (λ_ _ _=>trivial) ?_
 refine bL ?_
 refine zl T.jK (db b (C.wA (wr A1 (p+4*1) 4 (nO none))) (K.wA _) p 2 none (k1p p rfl).1 (k1p.kl p rfl) (by omega) (λq h=>by cases h)) (.cons .here .nil) (λ_ _ _=>trivial) ?_
 refine bL ?_
 refine zl T.L9 (qJ b (C.wA (wr (wr A1 (p+4*1) 4 (nO none)) (p+4*2) 4 (nO none))) (K.wA _) p 4 (by omega) (k2p p rfl).1 (k2p.kl p rfl)) (.cons .here .nil) (λ_ _ _=>trivial) ?_
 refine oc ?_
 refine Hh (H':= [Cl b (C.wA (ni A1 p)),ag q 139 [.pointer (some ⟨b,0,none⟩), .slice (some ⟨qb,0,none⟩) C.ae.length C.ae.length],ag qb 327 (ds.set (i*3+2) (.int .i64 (((ql Q i).length:Int)-1)))]) ?_
 rw[ce]
 refine Rt [Cl b (C.wA (ni A1 p)),ag q 139 [.pointer (some ⟨b,0,none⟩), .slice (some ⟨qb,0,none⟩) C.ae.length C.ae.length],ag qb 327 ((Q.set i ((ql Q i).eraseIdx k)).flatMap (dR C))] results166 ?_
 exact⟨rfl,ni A1 p,rfl,⟨ok,d⟩,dst,oN⟩
def tX (Q:List (List Nat))(i k j p:Nat):List (List Nat):=(Q.set i ((ql Q i).eraseIdx k)).set j (p::ql (Q.set i ((ql Q i).eraseIdx k)) j)
theorem HD (q b qb:Nat)(C:Cs)(K:Ok C)(Q:List (List Nat))(O:hZ C Q)(i k p s:Nat)(hs:1≤s∧s≤3)(hk:(ql Q i)[k]?=some p):
  aF aaa 197 [.pointer (some ⟨q,0,none⟩), .int .u64 (C.hd p:Int), .int .i64 (s:Int)] (λ_=>True) (Cl b C::qO q b qb C Q)
   (λv H=>v= .int .i64 0∧∃A,H=Cl b (C.wA A)::qO q b qb (C.wA A) (tX Q i k (qi (C.cl p) s) p)∧Wu C p A (tX Q i k (qi (C.cl p) s) p)):=by
 have P:gv C (some p):=O.J7 (i:=i) λx hx=>by cases hx;exact aaf hk
 unfold qO
 refine af func197 rfl ntmps197 rfl ?_
 intro F _
 refine bD ?_
 refine zl T.yB (rP s hs) .nil (λ_ _ _=>trivial) ?_
 refine dg ?_
 refine Lp (oC T.Mu rfl rfl (AL q b qb C K Q O i k p hk) (.cons .here (.cons .here (.cons .here .nil))) (λ_ _ _=>trivial) ?_)
 rintro v H' ⟨rfl,A,rfl,D⟩
 refine bd ?_
 have P2:gv (C.wA A) (some p):=sg K D.d P (λ_ _ j s=>s.p7)
 have hn2:¬(1≤ij (C.wA A).A p∧ij (C.wA A).A p≤3):=by rw[cg,D.st];omega
 refine gP ?_
 refine Lp (oC T.L7 rfl rfl (AK q b qb (C.wA A) (K.wA A) (Q.set i ((ql Q i).eraseIdx k)) D.o p s hs P2 hn2) (.cons .here (.cons .here (.cons .here .nil))) (λ_ _ _=>trivial) ?_)
 rintro v H' ⟨rfl,B,rfl,E⟩
 refine bd ?_
 refine bq ?_
 refine Rt [Cl b (C.wA B),ag q 139 (fj b qb C.ae.length),ag qb 327 ((tX Q i k (qi (C.cl p) s) p).flatMap (dR C))] results197 ?_
 exact⟨rfl,B,rfl,E.o,D.d.trans E.d.wA⟩
end Go.Proofs.YtdolmecackmjdaaGreatDoor
