/- Part Pq of the proof. -/
import Derived.Test.YtcbcjolpdljbiaaGreatPp
set_option maxRecDepth 100000
open Go.Proofs.YtcbcjolpdljbiaaGreat.T
open Int renaming tmod_lt_of_pos -> agI
open Go.Proofs.Tryz
open Go.Value renaming int -> Dm
open Go.IntKind renaming i64 -> Dl
namespace Go.Proofs.YtcbcjolpdljbiaaGreat
open Go Go.dC Go.Proofs.YtcbcjolpdljbiaaGreat.Cs
theorem qG (n:Int):aG Tryz.prog 57 [Dm Dl n] uT [] (λv H=>v=Dm Dl (BA n)/\H= []):=by
 have hw:=te n;unfold BA at*;refine af func57 rfl ntmps57 rfl ?_;intro F _;refine bn ?_;refine Li (Im) ?_;refine aA (t:=4) (v':=(Dm Dl (n.tmod 1048577))) rfl (by rfl) ?_;generalize n.tmod 1048577=m at*;refine bK ?_;refine az rfl ?_ ?_
 ·intro fm
  replace fm:=aO fm;refine bd ?_;refine Li (Ng) ?_;refine aA (t:=8) (v':=(Dm Dl (-m))) rfl (by(exact congrArg (Value.int .i64) (Int.zero_sub m))) ?_;refine bK ?_;refine Rt [] results57 ?_;refine⟨?_,rfl⟩;refine congrArg (Value.int .i64) ?_;omega
 intro fm;replace fm:=aO fm;refine bK ?_;refine Rt [] results57 ?_;refine⟨?_,rfl⟩;refine congrArg (Value.int .i64) ?_;omega
theorem Yo (pc:pD):aG Tryz.prog 21 [.agg (zR pc).toArray] uT [] (λv H=>v= .agg (zR (DR pc)).toArray/\H= []):=by
 have w1:=qG pc.b;have w2:=qG pc.l;have w3:=qG pc.c;have w4:=qG pc.m;unfold zR DR at*;refine af func21 rfl ntmps21 rfl ?_;intro F _;refine aw ?_;refine Lp (oB λb1=> ?_);refine Lp (oA Qf λb2=> ?_);refine aw ?_;refine av ?_;refine iU 13 mix (.cons (.there .here) .nil) λF1 jD bV aI=> ?_;obtain⟨q1,_⟩:=bV;refine aw ?_
 first
  |refine Ti (Lf bj) ?_
  |refine Ti (Bw bj q1) ?_
 refine Tp (oZ (Aa (n:=57)) (w1) .nil Di ?_);refine aw ?_
 first
  |refine Ti (Lf bj) ?_
  |refine Ti (Bw bj q1) ?_
 refine Tp (oZ (Aa (n:=57)) (w2) .nil Di ?_);refine aw ?_
 first
  |refine Ti (Lf bj) ?_
  |refine Ti (Bw bj q1) ?_
 refine Tp (oZ (Aa (n:=57)) (w3) .nil Di ?_);refine aw ?_
 first
  |refine Ti (Lf bj) ?_
  |refine Ti (Bw bj q1) ?_
 refine Tp (oZ (Aa (n:=57)) (w4) .nil Di ?_);refine aw ?_;refine gI aI ?_;refine Tp (jh QN ?_);refine bd ?_;refine Jc [] QN results21 ?_;exact⟨rfl,rfl⟩
theorem aax{n w:Int}(h:0<w):gh .rem .i64 n w=some (n.tmod w):=by
 unfold gh
 first|(dsimp only;rw[if_neg (by omega)])|(simp;omega)
theorem JV (n lo hi:Int)(h:lo<=hi)(h0:0<=lo)(h1:hi<=1048576):aG Tryz.prog 20 [Dm Dl n,Dm Dl lo,Dm Dl hi] uT [] (λv H=>v=Dm Dl (vH n lo hi)/\H= []):=by
 have hw:=yB (n:=n) h;have a1:=agI n (b:=hi-lo+1) (by omega);have a2: -(hi-lo+1)<n.tmod (hi-lo+1):=by
  have:=agI (-n) (b:=hi-lo+1) (by omega);rw[Int.neg_tmod]at this;omega
 have hr:=aax (n:=n) (w:=hi-lo+1) (by omega);unfold vH at*;refine af func20 rfl ntmps20 rfl ?_;intro F _;refine cV ?_;refine aA (t:=11) (v':=(Dm Dl (hi-lo+1))) rfl (by(refine congrArg (Value.int .i64) ?_;first|rfl|omega|(rw[wrap_i64 (by omega)]))) ?_;generalize hi-lo+1=w at*;refine bn ?_;refine Li (Im (hz:=hr)) ?_;generalize n.tmod w=m at*;refine bK ?_;refine az rfl ?_ ?_
 ·intro fm
  replace fm:=aO fm;refine gJ ?_;refine Rt [] results20 ?_;refine⟨?_,rfl⟩;refine congrArg (Value.int .i64) ?_;split<;>omega
 intro fm;replace fm:=aO fm;refine cA ?_;refine Rt [] results20 ?_;refine⟨?_,rfl⟩;refine congrArg (Value.int .i64) ?_;split<;>omega
end Go.Proofs.YtcbcjolpdljbiaaGreat
