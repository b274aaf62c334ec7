/- Part Pq of the proof. -/
import Derived.Test.YtcbcjolpdljbiaaGreatPd
import Derived.Test.YtcbcjolpdljbiaaGreatPo
import Derived.Test.YtcbcjolpdljbiaaGreatPp
set_option maxRecDepth 100000
open Go.Proofs.YtcbcjolpdljbiaaGreat.T
open Go.Proofs.Tryz
open Go.Value renaming int -> CO
open Go.IntKind renaming i64 -> CN
namespace Go.Proofs.YtcbcjolpdljbiaaGreat
open Go Go.dG Go.Proofs.YtcbcjolpdljbiaaGreat.Cs
theorem qF (n:Int):aO Tryz.prog 57 [CO CN n] (λ_=>True) [] (λv H=>v=CO CN (A6 n)/\H= []):=by
 have hw:=lC n;unfold A6 at*;refine ag func57 rfl ntmps57 rfl ?_;intro F _;refine bE ?_;refine Li (Im) ?_;refine ay (t:=4) (v':=(CO CN (n.tmod 1048577))) rfl (by rfl) ?_;generalize n.tmod 1048577=m at*;refine bR ?_;refine aE rfl ?_ ?_
 ·intro dQ
  replace dQ:=aS dQ;refine bA ?_;refine Li (Ng) ?_;refine ay (t:=8) (v':=(CO CN (-m))) rfl (by(exact congrArg (Value.int .i64) (Int.zero_sub m))) ?_;refine bR ?_;refine Rt [] results57 ?_;refine⟨?_,rfl⟩;refine congrArg (Value.int .i64) ?_;omega
 intro dQ;replace dQ:=aS dQ;refine bR ?_;refine Rt [] results57 ?_;refine⟨?_,rfl⟩;refine congrArg (Value.int .i64) ?_;omega
theorem XC (pc:um):aO Tryz.prog 21 [.agg (zd pc).toArray] (λ_=>True) [] (λv H=>v= .agg (zd (xb pc)).toArray/\H= []):=by
 have w1:=qF pc.b;have w2:=qF pc.l;have w3:=qF pc.c;have w4:=qF pc.m;unfold zd xb at*;refine ag func21 rfl ntmps21 rfl ?_;intro F _;refine av ?_;refine Lp (oB λb1=> ?_);refine Lp (oA Zz λb2=> ?_);refine av ?_;refine aw ?_;refine hJ 13 mix (.cons (.there .here) .nil) λF1 jf bZ aN=> ?_;obtain⟨q1,_⟩:=bZ;refine av ?_
 first
  |refine Ti (Lf bC) ?_
  |refine Ti (AZ bC q1) ?_
 refine Tp (oC CF rfl rfl (w1) .nil CI ?_);rintro v H' ⟨rfl,rfl⟩;refine aX ?_;refine av ?_
 first
  |refine Ti (Lf bC) ?_
  |refine Ti (AZ bC q1) ?_
 refine Tp (oC CF rfl rfl (w2) .nil CI ?_);rintro v H' ⟨rfl,rfl⟩;refine aX ?_;refine av ?_
 first
  |refine Ti (Lf bC) ?_
  |refine Ti (AZ bC q1) ?_
 refine Tp (oC CF rfl rfl (w3) .nil CI ?_);rintro v H' ⟨rfl,rfl⟩;refine aX ?_;refine av ?_
 first
  |refine Ti (Lf bC) ?_
  |refine Ti (AZ bC q1) ?_
 refine Tp (oC CF rfl rfl (w4) .nil CI ?_);rintro v H' ⟨rfl,rfl⟩;refine aX ?_;refine av ?_;refine gd aN ?_;refine Tp (iF PY ?_);refine bA ?_;refine FX [] PY results21 ?_;exact⟨rfl,rfl⟩
theorem WO (c:fe)(ka:Option Addr)(kc:Nat)(da:Option Addr)(dc:Nat)(mv:Value)(mH:mv.oneCell'=true)(uj:c.keys.length<1073741824)(Od:c.data.length<140737488351232):
  aO Tryz.prog 12 [.agg (fu c ka kc da dc mv).toArray] (λh=>gg h ka (iK c.keys)/\gg h da (ax c.data)) []
   (λv H=>∃ka' kc' da' dc',c.keys.length<=kc'/\c.data.length<=dc'/\v= .agg (fu c ka' kc' da' dc' mv).toArray/\H= [own da' dc' 5 1 (ax c.data),own ka' kc' 9 1 (iK c.keys)]):=by
 have hs:(iK c.keys).length=c.keys.length:=by simp[iK]
 unfold fu;refine ag func12 rfl ntmps12 rfl ?_;rintro F ⟨hK,hD⟩;refine av ?_;refine Lp (oB λb1=> ?_);refine Lp (oA Zy λb2=> ?_);refine dm ?_;refine dw 9 1 ?_;refine Lp (fK IY ahZ rfl rfl rfl rfl .here (rfl) (eH (m:=c.keys.length) (by rw[hs,Nat.mul_one]) λh le _=>hK.mono le) ((λu hu=>by obtain⟨x,_,rfl⟩:=List.mem_map.1 hu;rfl)) (by first|omega|(simp;omega)) (by first|omega|(simp;omega)) rfl λa4 c4 hc4=> ?_);refine fq ?_;refine dw 5 1 ?_;refine Lp (fK kA s9 rfl rfl rfl rfl .here (rfl) (eH (m:=c.data.length) (by simp) λh le _=>hD.mono le) (by first|exact eO|(simp[Value.oneCell',bD])) (by first|omega|(simp;omega)) (by first|omega|(simp;omega)) rfl λa5 c5 hc5=> ?_);refine cA ?_;refine Lp (iF PX ?_ (h1:=by simp[Value.oneCell',bD];exact mH));refine bA ?_;refine FX [own a5 c5 5 1 (ax c.data),own a4 c4 9 1 (iK c.keys)] PX results12 ?_;exact⟨a4,c4,a5,c5,by simpa using hc4,by simpa using hc5,by simp only[Nat.zero_add];rfl,rfl⟩
end Go.Proofs.YtcbcjolpdljbiaaGreat
