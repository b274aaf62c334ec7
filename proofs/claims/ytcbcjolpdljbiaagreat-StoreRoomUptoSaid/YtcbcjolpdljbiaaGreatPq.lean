/- Part Pq of the proof. -/
import Derived.Test.YtcbcjolpdljbiaaGreatPp
set_option maxRecDepth 100000
open Go.Proofs.YtcbcjolpdljbiaaGreat.T
open Go.Proofs.Tryz
open Go.Value renaming int -> DE
open Go.IntKind renaming i64 -> DD
namespace Go.Proofs.YtcbcjolpdljbiaaGreat
open Go Go.dQ Go.Proofs.YtcbcjolpdljbiaaGreat.Cs
theorem rr (n:Int):aK Tryz.prog 57 [DE DD n] vz [] (λv H=>v=DE DD (BW n)/\H= []):=by
 have hw:=lK n;unfold BW at*;refine af func57 rfl ntmps57 rfl ?_;intro F _;refine ba ?_;refine Li (Im) ?_;refine az (t:=4) (v':=(DE DD (n.tmod 1048577))) rfl (by rfl) ?_;generalize n.tmod 1048577=m at*;refine bL ?_;refine aA rfl ?_ ?_
 ·intro cB
  replace cB:=aG cB;refine bn ?_;refine Li (Ng) ?_;refine az (t:=8) (v':=(DE DD (-m))) rfl (by(exact congrArg (Value.int .i64) (Int.zero_sub m))) ?_;refine bL ?_;refine Rt [] results57 ?_;refine⟨?_,rfl⟩;refine congrArg (Value.int .i64) ?_;omega
 intro cB;replace cB:=aG cB;refine bL ?_;refine Rt [] results57 ?_;refine⟨?_,rfl⟩;refine congrArg (Value.int .i64) ?_;omega
theorem Zm (pc:tO):aK Tryz.prog 21 [.agg (Ab pc).toArray] vz [] (λv H=>v= .agg (Ab (Ac pc)).toArray/\H= []):=by
 have w1:=rr pc.b;have w2:=rr pc.l;have w3:=rr pc.c;have w4:=rr pc.m;unfold Ab Ac at*;refine af func21 rfl ntmps21 rfl ?_;intro F _;refine aw ?_;refine Lp (oB λb1=> ?_);refine Lp (oA abx λb2=> ?_);refine aw ?_;refine av ?_;refine iL 13 mix (.cons (.there .here) .nil) λF1 jq bV aI=> ?_;obtain⟨q1,_⟩:=bV;refine aw ?_
 first
  |refine Ti (Lf bz) ?_
  |refine Ti (BR bz q1) ?_
 refine Tp (oZ (Aq (n:=57)) (w1) .nil DA ?_);refine aw ?_
 first
  |refine Ti (Lf bz) ?_
  |refine Ti (BR bz q1) ?_
 refine Tp (oZ (Aq (n:=57)) (w2) .nil DA ?_);refine aw ?_
 first
  |refine Ti (Lf bz) ?_
  |refine Ti (BR bz q1) ?_
 refine Tp (oZ (Aq (n:=57)) (w3) .nil DA ?_);refine aw ?_
 first
  |refine Ti (Lf bz) ?_
  |refine Ti (BR bz q1) ?_
 refine Tp (oZ (Aq (n:=57)) (w4) .nil DA ?_);refine aw ?_;refine gG aI ?_;refine Tp (gE Rj ?_);refine bn ?_;refine GF [] Rj results21 ?_;exact⟨rfl,rfl⟩
theorem YC (c:dy)(ka:FX)(kc:Nat)(da:FX)(dc:Nat)(mv:Value)(kx:mv.oneCell'=true)(qh:c.keys.length<1073741824)(GB:c.data.length<140737488351232):
  aK Tryz.prog 12 [.agg (dB c ka kc da dc mv).toArray] (λh=>fD h ka (fk c.keys)/\fD h da (ak c.data)) []
   (λv H=>∃ka' kc' da' dc',c.keys.length<=kc'/\c.data.length<=dc'/\v= .agg (dB c ka' kc' da' dc' mv).toArray/\H= [own da' dc' 5 1 (ak c.data),own ka' kc' 9 1 (fk c.keys)]):=by
 have hs:(fk c.keys).length=c.keys.length:=by simp[fk]
 unfold dB;refine af func12 rfl ntmps12 rfl ?_;rintro F ⟨hK,hD⟩;refine aw ?_;refine Lp (oB λb1=> ?_);refine Lp (oA QP λb2=> ?_);refine cY ?_;refine cX 9 1 ?_;refine Lp (fW JR aj4 rfl rfl rfl rfl .here (rfl) (eQ (m:=c.keys.length) (by rw[hs,Nat.mul_one]) λh le _=>hK.mono le) ((λu hu=>by obtain⟨x,_,rfl⟩:=List.mem_map.1 hu;rfl)) (by first|omega|(simp;omega)) (by first|omega|(simp;omega)) rfl λa4 c4 hc4=> ?_);refine fu ?_;refine cX 5 1 ?_;refine Lp (fW iT qx rfl rfl rfl rfl .here (rfl) (eQ (m:=c.data.length) (by simp) λh le _=>hD.mono le) (by first|exact ee|(simp[Value.oneCell',aW])) (by first|omega|(simp;omega)) (by first|omega|(simp;omega)) rfl λa5 c5 hc5=> ?_);refine cu ?_;refine Lp (gE JS ?_ (h1:=by simp[Value.oneCell',aW];exact kx));refine bn ?_;refine GF [own a5 c5 5 1 (ak c.data),own a4 c4 9 1 (fk c.keys)] JS results12 ?_;exact⟨a4,c4,a5,c5,by simpa using hc4,by simpa using hc5,by simp only[Nat.zero_add];rfl,rfl⟩
end Go.Proofs.YtcbcjolpdljbiaaGreat
