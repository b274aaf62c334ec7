/- Part Pq of the proof. -/
import Derived.Test.YtdolmecackmjdaaGreatDoorPd
import Derived.Test.YtdolmecackmjdaaGreatDoorPo
import Derived.Test.YtdolmecackmjdaaGreatDoorPp
set_option maxRecDepth 100000
open Int renaming natCast_inj → ado
open List renaming mem_map → adi, length_map → acU, getElem?_eq_getElem → acx, mem_of_getElem? → acB
open Go.Proofs.Tryz
namespace Go.Proofs.YtdolmecackmjdaaGreatDoor
open Go Go.dL Go.Proofs.YtdolmecackmjdaaGreatDoor.Cs
theorem pJ (n:Int):aH Tryz.prog 43 [.int .i64 n] (λ_=>True) [] (λv H=>v= .int .i64 (z8 n)∧H= []):=by
 have hw:=j6 n;unfold z8 at*;refine ae func43 rfl ntmps43 rfl ?_;intro F _;refine bc ?_;refine Li (Im) ?_;refine ao (t:=4) (v':=(.int .i64 (n.tmod 1048577))) rfl (by rfl) ?_;generalize n.tmod 1048577=m at*;refine bH ?_;refine av rfl ?_ ?_
 ·intro cn
  replace cn:=aD cn;refine a8 ?_;refine Li (Ng) ?_;refine ao (t:=8) (v':=(.int .i64 (-m))) rfl (by(exact congrArg (Value.int .i64) (Int.zero_sub m))) ?_;refine bH ?_;refine Rt [] results43 ?_;refine⟨?_,rfl⟩;refine congrArg (Value.int .i64) ?_;omega
 intro cn;replace cn:=aD cn;refine bH ?_;refine Rt [] results43 ?_;refine⟨?_,rfl⟩;refine congrArg (Value.int .i64) ?_;omega
theorem VH (pc:ua):aH Tryz.prog 14 [.agg (yl pc).toArray] (λ_=>True) [] (λv H=>v= .agg (yl (ym pc)).toArray∧H= []):=by
 have w1:=pJ pc.b;have w2:=pJ pc.l;have w3:=pJ pc.c;have w4:=pJ pc.m;unfold yl ym at*;refine ae func14 rfl ntmps14 rfl ?_;intro F _;refine ay ?_;refine Lp (oB λb1=> ?_);refine Lp (oA T.XD λb2=> ?_);refine ay ?_;refine au ?_;refine gK 13 T.mix (.cons (.there .here) .nil) λF1 iT cj aI=> ?_;obtain⟨q1,_⟩:=cj;refine ay ?_
 first
  |refine Ti (Lf T.bR) ?_
  |refine Ti (fB T.bR q1) ?_
 refine Tp (oC T.Hc rfl rfl (w1) .nil (λ_ _ _=>trivial) ?_);rintro v H' ⟨rfl,rfl⟩;refine bd ?_;refine ay ?_
 first
  |refine Ti (Lf T.bR) ?_
  |refine Ti (fB T.bR q1) ?_
 refine Tp (oC T.Hc rfl rfl (w2) .nil (λ_ _ _=>trivial) ?_);rintro v H' ⟨rfl,rfl⟩;refine bd ?_;refine ay ?_
 first
  |refine Ti (Lf T.bR) ?_
  |refine Ti (fB T.bR q1) ?_
 refine Tp (oC T.Hc rfl rfl (w3) .nil (λ_ _ _=>trivial) ?_);rintro v H' ⟨rfl,rfl⟩;refine bd ?_;refine ay ?_
 first
  |refine Ti (Lf T.bR) ?_
  |refine Ti (fB T.bR q1) ?_
 refine Tp (oC T.Hc rfl rfl (w4) .nil (λ_ _ _=>trivial) ?_);rintro v H' ⟨rfl,rfl⟩;refine bd ?_;refine ay ?_;refine gd aI ?_;refine Tp (eJ T.NR ?_);refine a8 ?_;refine ko [] T.NR results14 ?_;exact⟨rfl,rfl⟩
def UO (x y:I3):Bool:=x.key==y.key&&(x.val==y.val&&(x.fl==y.fl&&(x.exp==y.exp&&(x.tok==y.tok&&(x.tch==y.tch&&(decide (x.dB/2 % 2=1)==decide (y.dB/2 % 2=1)&&(decide (x.dB/4 % 2=1)==decide (y.dB/4 % 2=1)&&decide (x.dB/8 % 2=1)==decide (y.dB/8 % 2=1))))))))
theorem Iy{x y:I3}(h:x.vw=y.vw):UO x y=true:=by
 obtain⟨k1,v1,f1,e1,c1,t1,m1⟩:=x;obtain⟨k2,v2,f2,e2,c2,t2,m2⟩:=y;unfold I3.vw at h;simp only[I3.mk.injEq]at h;obtain⟨rfl,rfl,rfl,rfl,rfl,rfl,h⟩:=h;have hm:m1/2=m2/2:=by omega
 have h4:m1/4=m2/4:=by omega
 have h8:m1/8=m2/8:=by omega
 unfold UO;dsimp only;rw[hm,h4,h8];simp
theorem Df (x y:I3)(a b:Option Addr)(c d:Nat):aH Tryz.prog 26 [.agg (jQ x (.slice a x.val.length c)).toArray, .agg (jQ y (.slice b y.val.length d)).toArray] (λh=>dU h a (ai x.val)∧dU h b (ai y.val)) []
  (λv H=>v= .bool (UO x y)∧H= []):=by
 obtain⟨k1,v1,f1,e1,c1,t1,m1⟩:=x;obtain⟨k2,v2,f2,e2,c2,t2,m2⟩:=y;unfold UO jQ;dsimp only;generalize decide (m1/2 % 2=1)=a1 at*;generalize decide (m1/4 % 2=1)=a2 at*;generalize decide (m1/8 % 2=1)=a3 at*;generalize decide (m2/2 % 2=1)=b1 at*;generalize decide (m2/4 % 2=1)=b2 at*;generalize decide (m2/8 % 2=1)=b3 at*;refine ae func26 rfl ntmps26 rfl ?_;rintro F ⟨hA,hB⟩;refine ay ?_;refine Lp (oB λb1=> ?_);refine Lp (oB λb2=> ?_);refine bH ?_;refine Li Sq ?_;refine ay ?_;refine aE (t:=10) rfl ?_ ?_
 ·intro cn
  replace cn:=aD cn;refine a8 ?_;refine Li (Ts T.eC T.qw T.kk) ?_;refine a8 ?_;refine Li (Ts T.eC T.qw T.kk) ?_;refine Li Sq ?_;refine a8 ?_;refine aE (t:=19) rfl ?_ ?_
  ·intro cm
   replace cm:=aD cm;refine bH ?_;refine aE (t:=26) rfl ?_ ?_
   ·intro bS
    replace bS:=aD bS;refine bH ?_;refine aE (t:=33) rfl ?_ ?_
    ·intro bP
     replace bP:=aD bP;refine bH ?_;refine aE (t:=40) rfl ?_ ?_
     ·intro cG
      replace cG:=aD cG;refine bH ?_;refine aE (t:=47) rfl ?_ ?_
      ·intro gg
       replace gg:=aD gg;refine aR ?_;refine Li (Bq T.u_4) ?_;refine a8 ?_;refine aE (t:=54) rfl ?_ ?_
       ·intro ng
        replace ng:=aD ng;refine aR ?_;refine Li (Bq T.u_4) ?_;refine a8 ?_;refine aE (t:=61) rfl ?_ ?_
        ·intro MX
         replace MX:=aD MX;refine aR ?_;refine Li (Bq T.u_4) ?_;refine aR ?_;refine Rt [] results26 ?_;refine⟨congrArg Value.bool ?_,rfl⟩
         try simp only[ado]at*
         simp[*]
        intro MX;replace MX:=aD MX;refine cN ?_;refine Rt [] results26 ?_;refine⟨congrArg Value.bool ?_,rfl⟩
        try simp only[ado]at*
        simp[*]
       intro ng;replace ng:=aD ng;refine qa ?_;refine Rt [] results26 ?_;refine⟨congrArg Value.bool ?_,rfl⟩
       try simp only[ado]at*
       simp[*]
      intro gg;replace gg:=aD gg;refine bT ?_;refine aZ ?_;refine Rt [] results26 ?_;refine⟨congrArg Value.bool ?_,rfl⟩
      try simp only[ado]at*
      simp[*]
     intro cG;replace cG:=aD cG;refine bT ?_;refine bw ?_;refine Rt [] results26 ?_;refine⟨congrArg Value.bool ?_,rfl⟩
     try simp only[ado]at*
     simp[*]
    intro bP;replace bP:=aD bP;refine bT ?_;refine kx ?_;refine Rt [] results26 ?_;refine⟨congrArg Value.bool ?_,rfl⟩
    try simp only[ado]at*
    simp[*]
   intro bS;replace bS:=aD bS;refine bT ?_;refine bT ?_;refine aR ?_;refine Rt [] results26 ?_;refine⟨congrArg Value.bool ?_,rfl⟩
   try simp only[ado]at*
   simp[*]
  intro cm;replace cm:=aD cm;refine bT ?_;refine bT ?_;refine bK ?_;refine Rt [] results26 ?_;refine⟨congrArg Value.bool ?_,rfl⟩
  try simp only[ado]at*
  simp[*]
 intro cn;replace cn:=aD cn;refine bT ?_;refine bT ?_;refine bT ?_;refine Rt [] results26 ?_;refine⟨congrArg Value.bool ?_,rfl⟩
 try simp only[ado]at*
 simp[*]
theorem JA:aH Tryz.prog 55 [aG,aG] (λ_=>True) [] (λv H=>v= .bool true∧H= []):=by
 unfold aG;refine ae func55 rfl ntmps55 rfl ?_;intro F _;refine z6 ?_;refine Lo (ι:=Nat) [11,12,13,14,17,18,19,20,21,22,23,24,25,4,15,16,5] (λi=>i=0) (λi=> [(5, .int .i64 (i:Int))]) (λi=> []) (λi=>0) (0) rfl ?_;rintro i rfl;refine kx ?_;refine Rt [] results55 ?_;exact⟨rfl,rfl⟩
theorem U6 (c:dI)(ka:Option Addr)(kc:Nat)(da:Option Addr)(dc:Nat)(mv:Value)(iG:mv.oneCell'=true)(oh:c.keys.length<1073741824)(BO:c.data.length<140737488351232):
  aH Tryz.prog 18 [.agg (cy c ka kc da dc mv).toArray] (λh=>dU h ka (eR c.keys)∧dU h da (ai c.data)) []
   (λv H=>∃ka' kc' da' dc',c.keys.length≤kc'∧c.data.length≤dc'∧v= .agg (cy c ka' kc' da' dc' mv).toArray∧H= [own da' dc' 5 1 (ai c.data),own ka' kc' 9 1 (eR c.keys)]):=by
 have hs:(eR c.keys).length=c.keys.length:=by simp[eR]
 unfold cy;refine ae func18 rfl ntmps18 rfl ?_;rintro F ⟨hK,hD⟩;refine ay ?_;refine Lp (oB λb1=> ?_);refine Lp (oA T.XC λb2=> ?_);refine cI ?_;refine aT 9 1 ?_;refine Lp (eo T.Hi T.ae7 rfl rfl rfl rfl .here (rfl) (dJ (m:=c.keys.length) (by rw[hs,Nat.mul_one]) λh le _=>hK.mono le) ((λu hu=>by obtain⟨x,_,rfl⟩:=adi.1 hu;rfl)) (by first|omega|(simp;omega)) (by first|omega|(simp;omega)) rfl λa4 c4 Ul=> ?_);refine fF ?_;refine aT 5 1 ?_;refine Lp (eo T.gj T.mB rfl rfl rfl rfl .here (rfl) (dJ (m:=c.data.length) (by simp) λh le _=>hD.mono le) (by first|exact cY|(simp[Value.oneCell',aB])) (by first|omega|(simp;omega)) (by first|omega|(simp;omega)) rfl λa5 c5 Xv=> ?_);refine cN ?_;refine Lp (eJ T.NQ ?_ (h1:=by simp[Value.oneCell',aB];exact iG));refine a8 ?_;refine ko [own a5 c5 5 1 (ai c.data),own a4 c4 9 1 (eR c.keys)] T.NQ results18 ?_;exact⟨a4,c4,a5,c5,by simpa using Ul,by simpa using Xv,by simp only[Nat.zero_add];rfl,rfl⟩
def fm (l:List (I3×Option Addr×Nat)):List Value:=l.flatMap λx=>jQ x.1 (.slice x.2.1 x.1.val.length x.2.2)
theorem De (l:List (I3×Option Addr×Nat))(i:Nat)(p:I3×Option Addr×Nat)(h:l[i]?=some p):((fm l).drop (i*9)).take 9=jQ p.1 (.slice p.2.1 p.1.val.length p.2.2):=by
 induction l generalizing i with
 |nil=>simp at h
 |cons q r ih=>
  have hq:(jQ q.1 (.slice q.2.1 q.1.val.length q.2.2)).length=9:=rfl;have e:fm (q::r)=jQ q.1 (.slice q.2.1 q.1.val.length q.2.2)++fm r:=rfl;rw[e];cases i with
  |zero=>
   simp only[List.getElem?_cons_zero,Option.some.injEq]at h;subst h;rw[Nat.zero_mul,List.drop_zero,List.take_append_of_le_length (by omega),List.take_of_length_le (by omega)]
  |succ i=>
   rw[List.getElem?_cons_succ]at h;rw[List.drop_append,List.drop_of_length_le (by omega),List.nil_append,hq,show(i+1)*9-9=i*9 from by omega];exact ih i h
structure uq (h:Hp)(a:Option Addr)(l:List (I3×Option Addr×Nat)):Prop where
 cells:dU h a (fm l)
 bytes:∀p∈l,dU h p.2.1 (ai p.1.val)
theorem uq.mono{h k:Hp}{a:Option Addr}{l:List (I3×Option Addr×Nat)}(p:uq h a l)(le:Le h k):uq k a l:=⟨p.cells.mono le,λq hq=>(p.bytes q hq).mono le⟩
theorem jo (l:List (I3×Option Addr×Nat)):(fm l).length=l.length*9:=by
 unfold fm
 induction l with
 |nil=>rfl
 |cons q r ih=>rw[List.flatMap_cons,List.length_append,ih,List.length_cons,show(jQ q.1 (.slice q.2.1 q.1.val.length q.2.2)).length=9 from rfl];omega
theorem DS (l m:List (I3×Option Addr×Nat))(he:l.map (λx=>x.1.vw)=m.map (λx=>x.1.vw))(a b:Option Addr)(n1 n2 c1 c2:Nat)(h1:n1=l.length)(h2:n2=m.length)(IX:n1≤c1)(ow:n2≤c2)(hl:l.length≤9223372036854775807):
  aH Tryz.prog 54 [.slice a n1 c1, .slice b n2 c2] (λh=>uq h a l∧uq h b m) [] (λv H=>v= .bool true∧H= []):=by
 subst h1 h2;have hlen:m.length=l.length:=by
  have:=congrArg List.length he;rw[acU,acU]at this;exact this.symm
 refine ae func54 rfl ntmps54 rfl ?_;rintro F ⟨hA,hB⟩;refine bK ?_;refine cu ?_ (e:=by(rw[hlen];simp));refine bH ?_;refine Lo (ι:=Nat) [11,12,13,14,17,18,19,20,21,22,23,24,25,26,4,15,16,5] (λi=>i≤l.length) (λi=> [(5, .int .i64 (i:Int))]) (λi=> []) (λi=>l.length-i) (0) (Nat.zero_le _) ?_;rintro i hi;refine bH ?_;refine av rfl ?_ ?_
 ·intro bX
  replace bX:=aD bX;have hlt':i<l.length:=by omega
  have e1:l[i]?=some l[i]:=acx hlt';have e2:m[i]?=some (m[i]'(by omega)):=acx (by omega);generalize l[i]=p at e1;generalize m[i]'(by omega)=q at e2;have hpq:p.1.vw=q.1.vw:=by
   have:=congrArg (λz=>z[i]?) he;simp only[List.getElem?_map,e1,e2,Option.map_some,Option.some.injEq]at this;exact this
  have k1:=De l i p e1;have k2:=De m i q e2;have r1:=hA.cells;have r2:=hB.cells;have rp:=hA.bytes p (acB e1);have rq:=hB.bytes q (acB e2);have sa:a.isSome=true:=r1.some (by rw[jo];omega);have sb:b.isSome=true:=r2.some (by rw[jo];omega);have t1:=jo l;have t2:=jo m;refine aR ?_;refine au ?_;refine gT true T.mix ?_;refine a8 ?_;refine Ti (Ix T.Nr) ?_;refine aZ ?_;refine Ti (Ix T.Nr) ?_;refine ay ?_;refine Tp (oC T.Yu rfl rfl (Df p.1 q.1 p.2.1 q.2.1 p.2.2 q.2.2) .nil (λ_ le _=>⟨rp.mono le,rq.mono le⟩) ?_);rintro v H' ⟨rfl,rfl⟩;refine bd ?_;rw[Iy hpq];refine Ti Nt ?_;refine cN ?_;refine az ?_;refine Ro (i+1) (by omega) (by omega)
 intro bX;replace bX:=aD bX;refine cN ?_;refine Rt [] results54 ?_;exact⟨rfl,rfl⟩
theorem GG (k:Nat)(num:Nat)(t:List UInt8)(l m:List (I3×Option Addr×Nat))(he:l.map (λx=>x.1.vw)=m.map (λx=>x.1.vw))(a b:Option Addr)(c1 c2:Nat)(IX:l.length≤c1)(ow:m.length≤c2)(hl:l.length≤9223372036854775807):
  aH Tryz.prog 22 [.agg (dG k (.slice a l.length c1) num t).toArray, .agg (dG k (.slice b m.length c2) num t).toArray] (λh=>uq h a l∧uq h b m) [] (λv H=>v= .bool true∧H= []):=by
 have e:=DS l m he a b l.length m.length c1 c2 rfl rfl IX ow hl;unfold dG;refine ae func22 rfl ntmps22 rfl ?_;rintro F ⟨hA,hB⟩;refine ay ?_;refine Lp (oB λb1=> ?_);refine Lp (oB λb2=> ?_);refine cN ?_;refine aE (t:=10) rfl ?_ ?_
 ·intro cn
  replace cn:=aD cn;refine aR ?_;refine zl T.afK (e) .nil (λ_ le _=>⟨hA.mono le,hB.mono le⟩) ?_;refine a8 ?_;refine aE (t:=17) rfl ?_ ?_
  ·intro cm
   replace cm:=aD cm;refine bH ?_;refine aE (t:=24) rfl ?_ ?_
   ·intro bS
    replace bS:=aD bS;refine aR ?_;refine Li Sq ?_;refine a8 ?_;refine aE (t:=31) rfl ?_ ?_
    ·intro bP
     replace bP:=aD bP;refine aR ?_;refine zl T.afJ (JA) .nil (λ_ _ _=>trivial) ?_;refine aR ?_;refine Rt [] results22 ?_
     first|exact⟨rfl,rfl⟩|(exfalso;simp_all)
    intro bP;replace bP:=aD bP;refine cN ?_;refine Rt [] results22 ?_
    first|exact⟨rfl,rfl⟩|(exfalso;simp_all)
   intro bS;replace bS:=aD bS;refine qa ?_;refine Rt [] results22 ?_
   first|exact⟨rfl,rfl⟩|(exfalso;simp_all)
  intro cm;replace cm:=aD cm;refine bT ?_;refine aZ ?_;refine Rt [] results22 ?_
  first|exact⟨rfl,rfl⟩|(exfalso;simp_all)
 intro cn;replace cn:=aD cn;refine bT ?_;refine bw ?_;refine Rt [] results22 ?_
 first|exact⟨rfl,rfl⟩|(exfalso;simp_all)
def toG (l:List (I3×Nat)):List (I3×Option Addr×Nat):=l.map λx=>(x.1,some ⟨x.2,0,none⟩,x.1.val.length)
theorem toG_cells (l:List (I3×Nat)):fm (toG l)=fY l:=by
 unfold fm toG fY;rw[List.flatMap_map]
theorem toG_len (l:List (I3×Nat)):(toG l).length=l.length:=by unfold toG;rw[acU]
theorem toG_vw (l:List (I3×Nat)):(toG l).map (λx=>x.1.vw)=l.map (λx=>x.1.vw):=by
 unfold toG;rw[List.map_map];rfl
theorem toG_at{h:Hp}{a:Option Addr}{l:List (I3×Nat)}(h1:dU h a (fY l))(h2:∀p∈l,dU h (some ⟨p.2,0,none⟩) (ai p.1.val)):uq h a (toG l):=⟨by rw[toG_cells];exact h1,λp hp=>by
 obtain⟨q,hq,rfl⟩:=adi.1 hp;exact h2 q hq⟩
end Go.Proofs.YtdolmecackmjdaaGreatDoor
