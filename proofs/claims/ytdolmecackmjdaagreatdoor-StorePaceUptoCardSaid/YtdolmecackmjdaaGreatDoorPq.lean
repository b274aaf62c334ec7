/- Part Pq of the proof. -/
import Derived.Test.YtdolmecackmjdaaGreatDoorPd
import Derived.Test.YtdolmecackmjdaaGreatDoorPo
import Derived.Test.YtdolmecackmjdaaGreatDoorPp
set_option maxRecDepth 100000
open Int renaming natCast_inj → adn
open List renaming length_map → aax, getElem?_eq_getElem → aac, mem_of_getElem? → aaf
open Go.Proofs.Tryz
namespace Go.Proofs.YtdolmecackmjdaaGreatDoor
open Go Go.cV Go.Proofs.YtdolmecackmjdaaGreatDoor.Cs
theorem nN (n:Int):aF Tryz.prog 43 [.int .i64 n] (λ_=>True) [] (λv H=>v= .int .i64 (x8 n)∧H= []):=by
 have hw:=jm n
 unfold x8 at*
 refine af func43 rfl ntmps43 rfl ?_
 intro F _
 refine br ?_
 refine Li (Im) ?_
 refine ay (t:=4) (v':=(.int .i64 (n.tmod 1048577))) rfl (by rfl) ?_
 generalize n.tmod 1048577=m at*
 refine bL ?_
 refine ax rfl ?_ ?_
 ·intro cY
  replace cY:=aL cY
  refine bf ?_
  refine Li (Ng) ?_
  refine ay (t:=8) (v':=(.int .i64 (-m))) rfl (by(exact congrArg (Value.int .i64) (Int.zero_sub m))) ?_
  refine bL ?_
  refine Rt [] results43 ?_
  refine⟨?_,rfl⟩
  refine congrArg (Value.int .i64) ?_
  omega
 intro cY
 replace cY:=aL cY
 refine bL ?_
 refine Rt [] results43 ?_
 refine⟨?_,rfl⟩
 refine congrArg (Value.int .i64) ?_
 omega
theorem Fy (pc:sQ):aF Tryz.prog 14 [.agg (uj pc).toArray] (λ_=>True) [] (λv H=>v= .agg (uj (uk pc)).toArray∧H= []):=by
 have w1:=nN pc.b
 have w2:=nN pc.l
 have w3:=nN pc.c
 have w4:=nN pc.m
 unfold uj uk at*
 refine af func14 rfl ntmps14 rfl ?_
 intro F _
 refine aA ?_
 refine Lp (oB λb1=> ?_)
 refine Lp (oA T.UI λb2=> ?_)
 refine aA ?_
 refine aw ?_
 refine ik 13 T.mix (.cons (.there .here) .nil) λF1 je bR aM=> ?_
 obtain⟨q1,_⟩:=bR
 refine aA ?_
 first
  |refine Ti (Lf T.dD) ?_
  |refine Ti (x5 T.dD q1) ?_
 refine Tp (oC T.E1 rfl rfl (w1) .nil (λ_ _ _=>trivial) ?_)
 rintro v H' ⟨rfl,rfl⟩
 refine bd ?_
 refine aA ?_
 first
  |refine Ti (Lf T.dD) ?_
  |refine Ti (x5 T.dD q1) ?_
 refine Tp (oC T.E1 rfl rfl (w2) .nil (λ_ _ _=>trivial) ?_)
 rintro v H' ⟨rfl,rfl⟩
 refine bd ?_
 refine aA ?_
 first
  |refine Ti (Lf T.dD) ?_
  |refine Ti (x5 T.dD q1) ?_
 refine Tp (oC T.E1 rfl rfl (w3) .nil (λ_ _ _=>trivial) ?_)
 rintro v H' ⟨rfl,rfl⟩
 refine bd ?_
 refine aA ?_
 first
  |refine Ti (Lf T.dD) ?_
  |refine Ti (x5 T.dD q1) ?_
 refine Tp (oC T.E1 rfl rfl (w4) .nil (λ_ _ _=>trivial) ?_)
 rintro v H' ⟨rfl,rfl⟩
 refine bd ?_
 refine aA ?_
 refine gO aM ?_
 refine Tp (gM T.K5 ?_)
 refine bf ?_
 refine EM [] T.K5 results14 ?_
 exact⟨rfl,rfl⟩
def Rs (x y:I3):Bool:=x.key==y.key&&(x.val==y.val&&(x.fl==y.fl&&(x.exp==y.exp&&(x.tok==y.tok&&(x.tch==y.tch&&(decide (x.cQ/2 % 2=1)==decide (y.cQ/2 % 2=1)&&(decide (x.cQ/4 % 2=1)==decide (y.cQ/4 % 2=1)&&decide (x.cQ/8 % 2=1)==decide (y.cQ/8 % 2=1))))))))
theorem Gi{x y:I3}(h:x.vw=y.vw):Rs x y=true:=by
 obtain⟨k1,v1,f1,e1,c1,t1,m1⟩:=x
 obtain⟨k2,v2,f2,e2,c2,t2,m2⟩:=y
 unfold I3.vw at h
 simp only[I3.mk.injEq]at h
 obtain⟨rfl,rfl,rfl,rfl,rfl,rfl,h⟩:=h
 have hm:m1/2=m2/2:=by omega
 have h4:m1/4=m2/4:=by omega
 have h8:m1/8=m2/8:=by omega
 unfold Rs
 dsimp only
 rw[hm,h4,h8]
 simp
theorem vD (x y:I3)(a b:Option Addr)(c d:Nat):aF Tryz.prog 26 [.agg (lT x (.slice a x.val.length c)).toArray, .agg (lT y (.slice b y.val.length d)).toArray] (λh=>eB h a (ak x.val)∧eB h b (ak y.val)) []
  (λv H=>v= .bool (Rs x y)∧H= []):=by
 obtain⟨k1,v1,f1,e1,c1,t1,m1⟩:=x
 obtain⟨k2,v2,f2,e2,c2,t2,m2⟩:=y
 unfold Rs lT
 dsimp only
 generalize decide (m1/2 % 2=1)=a1 at*
 generalize decide (m1/4 % 2=1)=a2 at*
 generalize decide (m1/8 % 2=1)=a3 at*
 generalize decide (m2/2 % 2=1)=b1 at*
 generalize decide (m2/4 % 2=1)=b2 at*
 generalize decide (m2/8 % 2=1)=b3 at*
 refine af func26 rfl ntmps26 rfl ?_
 rintro F ⟨hA,hB⟩
 refine aA ?_
 refine Lp (oB λb1=> ?_)
 refine Lp (oB λb2=> ?_)
 refine bL ?_
 refine Li Sq ?_
 refine aA ?_
 refine aS (t:=10) rfl ?_ ?_
 ·intro cY
  replace cY:=aL cY
  refine bf ?_
  refine Li (Ts T.gQ T.oI T.rY) ?_
  refine bf ?_
  refine Li (Ts T.gQ T.oI T.rY) ?_
  refine Li Sq ?_
  refine bf ?_
  refine aS (t:=19) rfl ?_ ?_
  ·intro dq
   replace dq:=aL dq
   refine bL ?_
   refine aS (t:=26) rfl ?_ ?_
   ·intro cX
    replace cX:=aL cX
    refine bL ?_
    refine aS (t:=33) rfl ?_ ?_
    ·intro bU
     replace bU:=aL bU
     refine bL ?_
     refine aS (t:=40) rfl ?_ ?_
     ·intro de
      replace de:=aL de
      refine bL ?_
      refine aS (t:=47) rfl ?_ ?_
      ·intro ig
       replace ig:=aL ig
       refine aW ?_
       refine Li (Bq T.Z3) ?_
       refine bf ?_
       refine aS (t:=54) rfl ?_ ?_
       ·intro oQ
        replace oQ:=aL oQ
        refine aW ?_
        refine Li (Bq T.Z3) ?_
        refine bf ?_
        refine aS (t:=61) rfl ?_ ?_
        ·intro hb7
         replace hb7:=aL hb7
         refine aW ?_
         refine Li (Bq T.Z3) ?_
         refine aW ?_
         refine Rt [] results26 ?_
         refine⟨congrArg Value.bool ?_,rfl⟩
         try simp only[adn]at*
         simp[*]
        intro hb7
        replace hb7:=aL hb7
        refine dg ?_
        refine Rt [] results26 ?_
        refine⟨congrArg Value.bool ?_,rfl⟩
        try simp only[adn]at*
        simp[*]
       intro oQ
       replace oQ:=aL oQ
       refine qY ?_
       refine Rt [] results26 ?_
       refine⟨congrArg Value.bool ?_,rfl⟩
       try simp only[adn]at*
       simp[*]
      intro ig
      replace ig:=aL ig
      refine bW ?_
      refine bq ?_
      refine Rt [] results26 ?_
      refine⟨congrArg Value.bool ?_,rfl⟩
      try simp only[adn]at*
      simp[*]
     intro de
     replace de:=aL de
     refine bW ?_
     refine bA ?_
     refine Rt [] results26 ?_
     refine⟨congrArg Value.bool ?_,rfl⟩
     try simp only[adn]at*
     simp[*]
    intro bU
    replace bU:=aL bU
    refine bW ?_
    refine mI ?_
    refine Rt [] results26 ?_
    refine⟨congrArg Value.bool ?_,rfl⟩
    try simp only[adn]at*
    simp[*]
   intro cX
   replace cX:=aL cX
   refine bW ?_
   refine bW ?_
   refine aW ?_
   refine Rt [] results26 ?_
   refine⟨congrArg Value.bool ?_,rfl⟩
   try simp only[adn]at*
   simp[*]
  intro dq
  replace dq:=aL dq
  refine bW ?_
  refine bW ?_
  refine bI ?_
  refine Rt [] results26 ?_
  refine⟨congrArg Value.bool ?_,rfl⟩
  try simp only[adn]at*
  simp[*]
 intro cY
 replace cY:=aL cY
 refine bW ?_
 refine bW ?_
 refine bW ?_
 refine Rt [] results26 ?_
 refine⟨congrArg Value.bool ?_,rfl⟩
 try simp only[adn]at*
 simp[*]
theorem Bi (l:List (I3×Nat))(i:Nat)(p:I3×Nat)(h:l[i]?=some p):((ff l).drop (i*9)).take 9=lT p.1 (.slice (some ⟨p.2,0,none⟩) p.1.val.length p.1.val.length):=by
 induction l generalizing i with
 |nil=>simp at h
 |cons q r ih=>
  have hq:(lT q.1 (.slice (some ⟨q.2,0,none⟩) q.1.val.length q.1.val.length)).length=9:=rfl
  have e:ff (q::r)=lT q.1 (.slice (some ⟨q.2,0,none⟩) q.1.val.length q.1.val.length)++ff r:=rfl
  rw[e]
  cases i with
  |zero=>
   simp only[List.getElem?_cons_zero,Option.some.injEq]at h
   subst h
   rw[Nat.zero_mul,List.drop_zero,List.take_append_of_le_length (by omega),List.take_of_length_le (by omega)]
  |succ i=>
   rw[List.getElem?_cons_succ]at h
   rw[List.drop_append,List.drop_of_length_le (by omega),List.nil_append,hq,show(i+1)*9-9=i*9 from by omega]
   exact ih i h
structure ph (h:Hp)(a:Option Addr)(l:List (I3×Nat)):Prop where
 cells:eB h a (ff l)
 bytes:∀p∈l,eB h (some ⟨p.2,0,none⟩) (ak p.1.val)
theorem ph.mono{h k:Hp}{a:Option Addr}{l:List (I3×Nat)}(p:ph h a l)(le:Le h k):ph k a l:=⟨p.cells.mono le,λq hq=>(p.bytes q hq).mono le⟩
theorem Eu (l m:List (I3×Nat))(he:l.map (λx=>x.1.vw)=m.map (λx=>x.1.vw))(a b:Option Addr)(n1 n2 c1 c2:Nat)(h1:n1=l.length)(h2:n2=m.length)(Kj:n1≤c1)(n9:n2≤c2)(hl:l.length≤9223372036854775807):
  aF Tryz.prog 54 [.slice a n1 c1, .slice b n2 c2] (λh=>ph h a l∧ph h b m) [] (λv H=>v= .bool true∧H= []):=by
 subst h1 h2
 have hlen:m.length=l.length:=by
  have:=congrArg List.length he
  rw[aax,aax]at this
  exact this.symm
 refine af func54 rfl ntmps54 rfl ?_
 rintro F ⟨hA,hB⟩
 refine bI ?_
 refine dm ?_ (e:=by(rw[hlen];simp))
 refine bL ?_
 refine Lo (ι:=Nat) [11,12,13,14,17,18,19,20,21,22,23,24,25,26,4,15,16,5] (λi=>i≤l.length) (λi=> [(5, .int .i64 (i:Int))]) (λi=> []) (λi=>l.length-i) (0) (Nat.zero_le _) ?_
 rintro i hi
 refine bL ?_
 refine ax rfl ?_ ?_
 ·intro cB
  replace cB:=aL cB
  have hlt':i<l.length:=by omega
  have e1:l[i]?=some l[i]:=aac hlt'
  have e2:m[i]?=some (m[i]'(by omega)):=aac (by omega)
  generalize l[i]=p at e1
  generalize m[i]'(by omega)=q at e2
  have hpq:p.1.vw=q.1.vw:=by
   have:=congrArg (λz=>z[i]?) he
   simp only[List.getElem?_map,e1,e2,Option.map_some,Option.some.injEq]at this
   exact this
  have k1:=Bi l i p e1
  have k2:=Bi m i q e2
  have r1:=hA.cells
  have r2:=hB.cells
  have rp:=hA.bytes p (aaf e1)
  have rq:=hB.bytes q (aaf e2)
  have sa:a.isSome=true:=r1.some (by rw[jy];omega)
  have sb:b.isSome=true:=r2.some (by rw[jy];omega)
  have t1:=jy l
  have t2:=jy m
  refine aW ?_
  refine aw ?_
  refine gT true T.mix ?_
  refine bf ?_
  refine Ti (Ix T.KA) ?_
  refine bq ?_
  refine Ti (Ix T.KA) ?_
  refine aA ?_
  refine Tp (oC T.KT rfl rfl (vD p.1 q.1 (some ⟨p.2,0,none⟩) (some ⟨q.2,0,none⟩) p.1.val.length q.1.val.length) .nil (λ_ le _=>⟨rp.mono le,rq.mono le⟩) ?_)
  rintro v H' ⟨rfl,rfl⟩
  refine bd ?_
  rw[Gi hpq]
  refine Ti Nt ?_
  refine dg ?_
  refine aG ?_
  refine Ro (i+1) (by omega) (by omega)
 intro cB
 replace cB:=aL cB
 refine dg ?_
 refine Rt [] results54 ?_
 exact⟨rfl,rfl⟩
theorem Hn:aF Tryz.prog 55 [bc,bc] (λ_=>True) [] (λv H=>v= .bool true∧H= []):=by
 unfold bc
 refine af func55 rfl ntmps55 rfl ?_
 intro F _
 refine CD ?_
 refine Lo (ι:=Nat) [11,12,13,14,17,18,19,20,21,22,23,24,25,4,15,16,5] (λi=>i=0) (λi=> [(5, .int .i64 (i:Int))]) (λi=> []) (λi=>0) (0) rfl ?_
 rintro i rfl
 refine mI ?_
 refine Rt [] results55 ?_
 exact⟨rfl,rfl⟩
theorem JN (k:Nat)(num:Nat)(t:List UInt8)(l m:List (I3×Nat))(he:l.map (λx=>x.1.vw)=m.map (λx=>x.1.vw))(a b:Option Addr)(c1 c2:Nat)(Kj:l.length≤c1)(n9:m.length≤c2)(hl:l.length≤9223372036854775807):
  aF Tryz.prog 22 [.agg (dY k (.slice a l.length c1) num t).toArray, .agg (dY k (.slice b m.length c2) num t).toArray] (λh=>ph h a l∧ph h b m) [] (λv H=>v= .bool true∧H= []):=by
 have e:=Eu l m he a b l.length m.length c1 c2 rfl rfl Kj n9 hl
 unfold dY
 refine af func22 rfl ntmps22 rfl ?_
 rintro F ⟨hA,hB⟩
 refine aA ?_
 refine Lp (oB λb1=> ?_)
 refine Lp (oB λb2=> ?_)
 refine dg ?_
 refine aS (t:=10) rfl ?_ ?_
 ·intro cY
  replace cY:=aL cY
  refine aW ?_
  refine zl T.acI (e) .nil (λ_ le _=>⟨hA.mono le,hB.mono le⟩) ?_
  refine bf ?_
  refine aS (t:=17) rfl ?_ ?_
  ·intro dq
   replace dq:=aL dq
   refine bL ?_
   refine aS (t:=24) rfl ?_ ?_
   ·intro cX
    replace cX:=aL cX
    refine aW ?_
    refine Li Sq ?_
    refine bf ?_
    refine aS (t:=31) rfl ?_ ?_
    ·intro bU
     replace bU:=aL bU
     refine aW ?_
     refine zl T.acH (Hn) .nil (λ_ _ _=>trivial) ?_
     refine aW ?_
     refine Rt [] results22 ?_
     first|exact⟨rfl,rfl⟩|(exfalso;simp_all)
    intro bU
    replace bU:=aL bU
    refine dg ?_
    refine Rt [] results22 ?_
    first|exact⟨rfl,rfl⟩|(exfalso;simp_all)
   intro cX
   replace cX:=aL cX
   refine qY ?_
   refine Rt [] results22 ?_
   first|exact⟨rfl,rfl⟩|(exfalso;simp_all)
  intro dq
  replace dq:=aL dq
  refine bW ?_
  refine bq ?_
  refine Rt [] results22 ?_
  first|exact⟨rfl,rfl⟩|(exfalso;simp_all)
 intro cY
 replace cY:=aL cY
 refine bW ?_
 refine bA ?_
 refine Rt [] results22 ?_
 first|exact⟨rfl,rfl⟩|(exfalso;simp_all)
theorem RK (c:dB)(ka:Option Addr)(kc:Nat)(da:Option Addr)(dc:Nat)(mv:Value)(j8:mv.oneCell'=true)(pO:c.keys.length<1073741824)(JV:c.data.length<140737488351232):
  aF Tryz.prog 18 [.agg (dZ c ka kc da dc mv).toArray] (λh=>eB h ka (fU c.keys)∧eB h da (ak c.data)) []
   (λv H=>∃ka' kc' da' dc',c.keys.length≤kc'∧c.data.length≤dc'∧v= .agg (dZ c ka' kc' da' dc' mv).toArray∧H= [own da' dc' 5 1 (ak c.data),own ka' kc' 9 1 (fU c.keys)]):=by
 have hs:(fU c.keys).length=c.keys.length:=by simp[fU]
 unfold dZ
 refine af func18 rfl ntmps18 rfl ?_
 rintro F ⟨hK,hD⟩
 refine aA ?_
 refine Lp (oB λb1=> ?_)
 refine Lp (oA T.UH λb2=> ?_)
 refine dh ?_
 refine dK 9 1 ?_
 refine Lp (eS T.E5 T.ab4 rfl rfl rfl rfl .here (rfl) (dC (m:=c.keys.length) (by rw[hs,Nat.mul_one]) λh le _=>hK.mono le) ((λu hu=>by obtain⟨x,_,rfl⟩:=List.mem_map.1 hu;rfl)) (by first|omega|(simp;omega)) (by first|omega|(simp;omega)) rfl λa4 c4 hc4=> ?_)
 refine fK ?_
 refine dK 5 1 ?_
 refine Lp (eS T.iL T.qc rfl rfl rfl rfl .here (rfl) (dC (m:=c.data.length) (by simp) λh le _=>hD.mono le) (by first|exact dQ|(simp[Value.oneCell',aT])) (by first|omega|(simp;omega)) (by first|omega|(simp;omega)) rfl λa5 c5 hc5=> ?_)
 refine dg ?_
 refine Lp (gM T.KZ ?_ (h1:=by simp[Value.oneCell',aT];exact j8))
 refine bf ?_
 refine EM [own a5 c5 5 1 (ak c.data),own a4 c4 9 1 (fU c.keys)] T.KZ results18 ?_
 exact⟨a4,c4,a5,c5,by simpa using hc4,by simpa using hc5,by simp only[Nat.zero_add];rfl,rfl⟩
end Go.Proofs.YtdolmecackmjdaaGreatDoor
