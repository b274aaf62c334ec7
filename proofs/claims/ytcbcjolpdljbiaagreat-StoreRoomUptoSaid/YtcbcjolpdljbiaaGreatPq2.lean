/- Part Pq2 of the proof. -/
import Derived.Test.YtcbcjolpdljbiaaGreatPo2
set_option maxRecDepth 100000
open Go.Proofs.YtcbcjolpdljbiaaGreat.T
open List renaming getElem?_eq_some_iff -> aa1, getElem?_eq_getElem -> aa0, getElem?_map -> abf, getElem?_range -> alG
open Nat renaming zero_le -> abn
open Bool renaming eq_iff_iff -> acR, or_eq_false_iff -> ak9
open Go.Proofs.Tryz
open Go.Value renaming int -> DE
open Go.IntKind renaming i64 -> DD, u64 -> DB
namespace Go.Proofs.YtcbcjolpdljbiaaGreat
open Tryz renaming prog -> FY
open Go Go.dQ Go.Proofs.YtcbcjolpdljbiaaGreat.Cs
theorem aaM{sl:F8}{n i:Nat}{z:Nat}(hi:∀(j w:Nat),j<i->sl[j]?=some w->w<n)(h:sl[i]?=some z)(hz:n<=z):qd sl n=i:=by
 unfold qd;have:sl.findIdx? (λz=>decide (n<=z))=some i:=by
  rw[List.findIdx?_eq_some_iff_getElem];obtain⟨hl,e⟩:=aa1.1 h;exact⟨hl,by rw[e];exact decide_eq_true hz,λj hj=>by
   have:=hi j (sl[j]'(by omega)) hj (aa0 (by omega));simp;omega⟩
 rw[this]
theorem aaK{sl:F8}{n:Nat}(hi:∀(j w:Nat),sl[j]?=some w->w<n):qd sl n= -1:=by
 unfold qd;have:sl.findIdx? (λz=>decide (n<=z))=none:=by
  rw[List.findIdx?_eq_none_iff];intro z hz;obtain⟨j,hj,rfl⟩:=List.getElem_of_mem hz;have:=hi j _ (aa0 hj);simp;omega
 rw[this]
theorem zB (a:FX)(c:Nat)(sl:F8)(hl:sl.length<=1000)(n:Nat):aK FY 67 [.slice a sl.length c,DE DD n] (λh=>fD h a (aE sl)) []
  (λv H=>v=DE DD (qd sl n)/\H= []):=by
 refine af func67 rfl ntmps67 rfl ?_;intro F hr;refine cY ?_;refine Lo (ι:=Nat) (FZ [4,15]) (λi=>i<=sl.length/\∀(j w:Nat),j<i->sl[j]?=some w->w<n) (λi=> [(5,DE DD i)]) (λi=> []) (λi=>sl.length-i) (0) ⟨abn _,λj t h=>absurd h (Nat.not_lt_zero _)⟩ ?_;rintro i hI;obtain⟨hi,hn⟩:=hI;refine bL ?_;by_cases ct:i<sl.length
 ·refine eJ ?_
  obtain⟨z,e1⟩:∃t,sl[i]?=some t:=⟨_,aa0 ct⟩;have p0:=eL e1;have BM:=fq sl;have sa:a.isSome=true:=hr.some (by omega);refine cY ?_;refine Li (Ix lp) ?_;refine bj ?_;by_cases hk:n<=z
  ·refine eJ ?_
   refine bD ?_;refine Rt [] results67 ?_;exact⟨by rw[aaM hn e1 hk],rfl⟩
  refine cM ?_;refine bL ?_;refine aB ?_;have XK:∀(j w:Nat),j<i+1->sl[j]?=some w->w<n:=λj u hj hu=>by
   by_cases h:j=i
   ·subst h
    rw[e1]at hu;cases hu;omega
   exact hn j u (by omega) hu
  refine Ro (i+1) (⟨ct,XK⟩) ((by omega))
 refine cM ?_;refine cu ?_;refine Rt [] results67 ?_;exact⟨by rw[aaK λj w h=>hn j w (by have:=(aa1.1 h).1;omega) h],rfl⟩
theorem aaF (n:Nat)(h:n<18446744073709551616):(dZ n).length<=20:=by have:=yZ 20 n (by omega);omega
theorem ZC (c:dy)(n:Nat)(h:n<18446744073709551616):gX c n<18446744073709551616:=by unfold gX;split<;>omega
def wo (c:dy)(k:F9)(ok:Bool)(ev:F9):Nat:=
 if c.ax=8\/c.ax=9 then(if ok=true then 58+k.length+c.data.length+ev.length else 0)
 else if c.ax=12\/c.ax=13 then(if ok=true then(match kV ev with|none=>0|some n=>58+k.length+(dZ (gX c n)).length)else 0)
 else 58+k.length+c.data.length
theorem T7 (c:dy)(ka:FX)(kc:Nat)(da:FX)(dc:Nat)(mv:Value)(kx:mv.oneCell'=true)(k:F9)(r:List F9)(qf:c.keys=k::r)(hk:k.length<281474976710656)(hd:c.data.length<281474976710656)(GB:c.dl<18446744073709551616)
  (ek ev:F9) (va:FX) (vc:Nat) (hev:ev.length<281474976710656) (x2 x3 x4 x5 x6 x7 x8:Value) (ho:x2.oneCell'=true/\x3.oneCell'=true/\x4.oneCell'=true/\x5.oneCell'=true/\x6.oneCell'=true/\x7.oneCell'=true/\x8.oneCell'=true) (ok:Bool):
  aK FY 68 [.agg (dB c ka kc da dc mv).toArray, .agg #[aW ek, .slice va ev.length vc,x2,x3,x4,x5,x6,x7,x8], .bool ok] (λh=>fD h ka (fk c.keys)/\fD h va (ak ev)) []
   (λv H=>v=DE DD (wo c k ok ev)/\H= []):=by
 have uX:(fk c.keys)[0]?=some (aW k):=by rw[qf];rfl
 have Af:c.keys.length=r.length+1:=by rw[qf];rfl
 have hnu:=M8 va vc ev (by omega);have hw:wo c k ok ev=if c.ax=8\/c.ax=9 then(if ok=true then 58+k.length+c.data.length+ev.length else 0)else if c.ax=12\/c.ax=13 then(if ok=true then(match kV ev with|none=>0|some n=>58+k.length+(dZ (gX c n)).length)else 0)else 58+k.length+c.data.length:=rfl
 generalize wo c k ok ev=w at*;obtain⟨o2,o3,o4,o5,o6,o7,o8⟩:=ho;unfold dB;refine af func68 rfl ntmps68 rfl ?_;rintro F ⟨hr,hv⟩;have Ql:ka.isSome=true:=hr.some (by simp[fk];omega);refine aw ?_;refine Lp (oB λb1=> ?_);refine Lp (oB λb2=> ?_);refine ba ?_;refine Li (Ix (j:=0) pI) ?_;refine aw ?_;refine Li (Ls sE) ?_;refine bj ?_;refine av ?_;refine Hh (H':= [ag b2 56 [aW ek, .slice va ev.length vc,x2,x3,x4,x5,x6,x7,x8],ag b1 42 [DE DD c.ax, .slice ka c.keys.length kc,DE DB c.fl,DE DD c.ex,DE DB c.tok,DE DB c.dl, .slice da c.data.length dc, .bool c.nor, .bool c.lg,mv,aW c.L4]]) ?_;refine aw ?_;refine av ?_;refine cG (ι:=Unit) (FZ [17,9]) (λu=>True) (λu=> [(17, .bool (decide (c.ax=8) ||decide (c.ax=9)))]) (λu=> [ag b2 56 [aW ek, .slice va ev.length vc,x2,x3,x4,x5,x6,x7,x8],ag b1 42 [DE DD c.ax, .slice ka c.keys.length kc,DE DB c.fl,DE DD c.ex,DE DB c.tok,DE DB c.dl, .slice da c.data.length dc, .bool c.nor, .bool c.lg,mv,aW c.L4]]) ?_ ?_
 ·refine cq ?_
  refine aY ?_;refine aM (t:=21) rfl ?_ ?_
  ·intro cB
   replace cB:=aG cB;refine ba ?_;refine aB ?_;refine Me (()) (trivial)
  intro cB;replace cB:=aG cB;refine ba ?_;refine aB ?_;refine Me (()) (trivial)
 rintro u hI;by_cases h89:c.ax=8\/c.ax=9
 ·rw[if_pos h89]at hw
  refine eJ ?_ (e:=by exact(by simp;omega));refine ba ?_;rcases ok with _|_
  ·rw[if_neg (by decide)]at hw
   refine cY ?_;refine Rt [] results68 ?_;exact⟨by rw[hw];rfl,rfl⟩
  rw[if_pos rfl]at hw;refine sI ?_;refine Rt [] results68 ?_;exact⟨by rw[hw];first|rfl|(refine congrArg (Value.int .i64) ?_;omega),rfl⟩
 rw[if_neg h89]at hw;refine cM ?_ (e:=by exact(by simp;omega));refine av ?_;refine cG (ι:=Unit) (FZ [37,9]) (λu2=>True) (λu2=> [(37, .bool (decide (c.ax=12) ||decide (c.ax=13)))]) (λu2=> [ag b2 56 [aW ek, .slice va ev.length vc,x2,x3,x4,x5,x6,x7,x8],ag b1 42 [DE DD c.ax, .slice ka c.keys.length kc,DE DB c.fl,DE DD c.ex,DE DB c.tok,DE DB c.dl, .slice da c.data.length dc, .bool c.nor, .bool c.lg,mv,aW c.L4]]) ?_ ?_
 ·refine cq ?_
  refine aY ?_;refine aM (t:=41) rfl ?_ ?_
  ·intro cB
   replace cB:=aG cB;refine ba ?_;refine aB ?_;refine Me (()) (trivial)
  intro cB;replace cB:=aG cB;refine ba ?_;refine aB ?_;refine Me (()) (trivial)
 rintro u2 hI;by_cases vd:c.ax=12\/c.ax=13
 ·rw[if_pos vd]at hw
  refine eJ ?_ (e:=by exact(by simp;omega));refine bj ?_;refine Lp (oC Aq rfl rfl (hnu) .nil (λ_ le _=>hv.mono le) ?_);rintro v H' ⟨n,is,rfl,hok1,hok2,rfl⟩;refine bS ?_;refine bO ?_;rcases ok with _|_
  ·rw[if_neg (by decide)]at hw
   refine zt 54 ?_ (e:=by rfl);refine cL ?_;refine Rt [] results68 ?_;exact⟨by rw[hw];rfl,rfl⟩
  rw[if_pos rfl]at hw;refine zf 54 ?_ (e:=by rfl);refine aY ?_;rcases is with _|_
  ·rw[hok2 rfl]at hw
   dsimp only at hw;refine cY ?_;refine Rt [] results68 ?_;exact⟨by rw[hw];rfl,rfl⟩
  obtain⟨hn,aiZ⟩:=hok1 rfl;rw[hn]at hw;dsimp only at hw;have ai0:=ZC c n aiZ;have hdg:=Jj (gX c n) ai0;have akg:=aaF (gX c n) ai0;refine bD ?_;refine av ?_;refine cG (ι:=Unit) (FZ [10,1,62,11]) (λu3=>True) (λu3=> [(10,DE DB (gX c n:Nat))]) (λu3=> [ag b2 56 [aW ek, .slice va ev.length vc,x2,x3,x4,x5,x6,x7,x8],ag b1 42 [DE DD c.ax, .slice ka c.keys.length kc,DE DB c.fl,DE DD c.ex,DE DB c.tok,DE DB c.dl, .slice da c.data.length dc, .bool c.nor, .bool c.lg,mv,aW c.L4]]) ?_ ?_
  ·by_cases h13:c.ax=13
   ·have hmm:gX c n=n-c.dl:=by unfold gX;rw[if_neg (by omega)]
    rw[hmm];refine ba ?_;refine eJ ?_ (e:=by exact decide_eq_true h13);refine cu ?_;by_cases hgt:c.dl<n
    ·refine eJ ?_
     refine bA ?_;refine aB ?_;refine az (t:=10) (v':=(DE DB (n-c.dl:Nat))) rfl (by exact congrArg (Value.int .u64) (by first|omega|exact(wrap_u64 (by omega)).trans (by omega))) ?_;refine Me (()) (trivial)
    refine cM ?_;refine aw ?_;refine az (t:=10) (v':=(DE DB (n-c.dl:Nat))) rfl (by exact congrArg (Value.int .u64) (by omega)) ?_;refine Me (()) (trivial)
   have hmm:gX c n=(n+c.dl) % 18446744073709551616:=by unfold gX;rw[if_pos (by omega)]
   rw[hmm];refine ba ?_;refine cM ?_ (e:=by exact decide_eq_false h13);refine aw ?_;refine az (t:=10) (v':=(DE DB ((n+c.dl) % 18446744073709551616:Nat))) rfl (by exact congrArg (Value.int .u64) (by first|exact AE (n+c.dl)|exact(AE (n+c.dl)).symm|(rw[<-AE];rfl))) ?_;refine Me (()) (trivial)
  rintro u3 hI;generalize hm:gX c n=m at*;refine bj ?_;refine Lp (oC Aq rfl rfl (hdg) .nil DA ?_);rintro v H' ⟨a5,c5,hc5,rfl,rfl⟩;refine bS ?_;refine bL ?_;refine Rt [] results68 ?_;exact⟨by rw[hw];first|rfl|(refine congrArg (Value.int .i64) ?_;omega),rfl⟩
 rw[if_neg vd]at hw;refine cM ?_ (e:=by exact(by simp;omega));refine cL ?_;refine Rt [] results68 ?_;exact⟨by rw[hw];first|rfl|(refine congrArg (Value.int .i64) ?_;omega),rfl⟩
theorem Lt{l:F8}{n:Nat}:qd l n<0↔l.findIdx? (λz=>decide (n<=z))=none:=by
 unfold qd;cases l.findIdx? (λz=>decide (n<=z))with
 |none=>exact⟨λ_=>rfl,λ_=>by decide⟩
 |some i=>exact⟨λh=>absurd h (by show¬((i:Nat):Int)<0;omega),λh=>by cases h⟩
theorem Pz{l:F8}{n i:Nat}(h:l.findIdx? (λz=>decide (n<=z))=some i):qd l n=i:=by
 unfold qd;rw[h]
abbrev r8H (b:Nat)(c:dy)(ka:FX)(kc:Nat)(da:FX)(dc:Nat)(mv:Value):aa:=ag b 42 [DE DD c.ax, .slice ka c.keys.length kc,DE DB c.fl,DE DD c.ex,DE DB c.tok,DE DB c.dl, .slice da c.data.length dc, .bool c.nor, .bool c.lg,mv,aW c.L4]
abbrev r9H (b:Nat)(a:fh)(ea:FX)(el ec:Nat):aa:=ag b 52 [DE DD a.kind, .slice ea el ec,DE DB a.num,aW a.uT, .slice none 0 0]
abbrev Xb (b:Nat)(ek ev:F9)(va:FX)(vc:Nat)(x2 x3 x4 x5 x6 x7 x8:Value):aa:=ag b 56 [aW ek, .slice va ev.length vc,x2,x3,x4,x5,x6,x7,x8]
abbrev Xa (b:Nat)(ra:FX)(n rc:Nat)(qa:FX)(qc:Nat)(sm:Int):aa:=ag b 79 [.slice ra n rc, .slice qa n qc,DE DD sm]
abbrev rmH (b:Nat)(dr re bu li lo cr Qg:Int):aa:=ag b 62 [DE DD dr,DE DD re,DE DD bu,DE DD li,DE DD lo,DE DD cr,DE DD Qg]
set_option maxHeartbeats 4000000 in
theorem UF (z:Ly)(M N:Mo)(a:fh)(c:dy)(ka:FX)(kc:Nat)(da:FX)(dc:Nat)(mv:Value)(kx:mv.oneCell'=true)(k:F9)(r:List F9)(qf:c.keys=k::r)(hk:k.length<281474976710656)(hd:c.data.length<281474976710656)(GB:c.dl<18446744073709551616)
  (ea:FX) (el ec:Nat) (ek ev:F9) (va:FX) (vc:Nat) (hev:ev.length<1048576) (hek:ek.length<1048576) (x2 x3 x4 x5 x6 x7 x8:Value) (ho:x2.oneCell'=true/\x3.oneCell'=true/\x4.oneCell'=true/\x5.oneCell'=true/\x6.oneCell'=true/\x7.oneCell'=true/\x8.oneCell'=true)
  (P:yA M c k (a,N)) (hw:M.jS c k (M.live k)=wo c k (M.live k).isSome ev) (gY:∀i p,M.live k=some p->M.C.cl p=i->i<M.C.ae.length->qd M.C.ae (58+ek.length+ev.length)<=i)
  (n:Nat) (hn:M.C.ae.length=n) (XK:n<=62) (hs:∀i,i<n->(M.C.rw i).eG<=1000000) (ra:FX) (rc:Nat) (qa:FX) (qc:Nat) (sm:Int) (la:FX) (lc:Nat):
  aK FY 29 [DC z.s, .agg (dB c ka kc da dc mv).toArray, .agg (gd a.kind (.slice ea el ec) a.num a.uT).toArray, .agg #[aW ek, .slice va ev.length vc,x2,x3,x4,x5,x6,x7,x8], .bool (M.live k).isSome, .agg #[.slice ra n rc, .slice qa n qc,DE DD sm], .slice la n lc]
   (λh=>fD h ka (fk c.keys)/\fD h va (ak ev)/\fD h ra (aE (p7 M n))/\fD h qa (aE (p9 M n))/\fD h la (aE M.C.ae)) [SW z N] (λv H=>v= .bool true/\H= [SW z N]):=by
 obtain⟨plo,pg,Ej,Ei,pno⟩:=P;rw[hw]at Ej Ei pno;dsimp only at plo pg Ej Ei pno;have wf:=T7 c ka kc da dc mv kx k r qf hk hd GB ek ev va vc (by omega) x2 x3 x4 x5 x6 x7 x8 ho (M.live k).isSome;have cf:=zB la lc M.C.ae (by omega) (wo c k (M.live k).isSome ev);have cf2:=zB la lc M.C.ae (by omega) (58+ek.length+ev.length);rw[hn]at cf cf2;have ff:=yX z N k hk;have uX:(fk c.keys)[0]?=some (aW k):=by rw[qf];rfl
 have Af:c.keys.length=r.length+1:=by rw[qf];rfl
 generalize wo c k (M.live k).isSome ev=w at*;have hnr:a.noRoom=(decide ((a.kind:Int)=11)&&decide (a.uT=gM)):=by
  unfold fh.noRoom;rw[acR];simp only[Bool.and_eq_true,decide_eq_true_eq];constructor<;>(rintro⟨h1,h2⟩;exact⟨by omega,h2⟩)
 generalize a.noRoom=nr at*;obtain⟨t,ht⟩:∃t,N.v.mt=t:=⟨_,rfl⟩;have mf:=AU z N;rw[ht]at mf plo pg Ej;have z0:vh N->(t.dr=0/\t.re=0/\t.lo=0):=λh=>by rw[<-ht];exact⟨h.dr,h.re,h.lo⟩
 obtain⟨dr,re,bu,li,lo,cr,Qg⟩:=t;dsimp only at plo pg Ej z0;have pd:0<=dr/\0<=re/\dr+re<=1:=by omega
 obtain⟨o2,o3,o4,o5,o6,o7,o8⟩:=ho;unfold dB gd at*;unfold mtC at mf;refine af func29 rfl ntmps29 rfl ?_;rintro F ⟨hK,hV,hR,hQ,hL⟩;have Ql:ka.isSome=true:=hK.some (by simp[fk];omega);refine aw ?_;refine Lp (oB λb1=> ?_);refine Lp (oB λb2=> ?_);refine Lp (oB λb3=> ?_);refine Lp (oB λb4=> ?_);refine aY ?_;refine zl Aq (mf) (.cons (.t4 .here) .nil) DA ?_;refine Lp (oA QO λb5=> ?_);refine Lp (gE AO ?_ (h1:=by simp[Value.oneCell',aW, *]));refine aw ?_;refine Hh (H':= [rmH b5 dr re bu li lo cr Qg,Xa b4 ra n rc qa qc sm,Xb b3 ek ev va vc x2 x3 x4 x5 x6 x7 x8,r9H b2 a ea el ec,r8H b1 c ka kc da dc mv,SW z N]) ?_;refine av ?_;refine cG (ι:=Unit) (FZ [16,1,25,8]) (λu=>True) (λu=> [(16, .bool nr)]) (λu=> [rmH b5 dr re bu li lo cr Qg,Xa b4 ra n rc qa qc sm,Xb b3 ek ev va vc x2 x3 x4 x5 x6 x7 x8,r9H b2 a ea el ec,r8H b1 c ka kc da dc mv,SW z N]) ?_ ?_
 ·by_cases Qv:(a.kind:Int)=11
  ·refine cq ?_
   refine aY ?_;refine zt 28 ?_ (e:=by exact decide_eq_true Qv);refine bn ?_;refine Li Sq ?_;refine bn ?_;refine aB ?_;refine az (t:=16) (v':=(.bool nr)) rfl (by(rw[hnr,decide_eq_true Qv];rfl)) ?_;refine Me (()) (trivial)
  refine cq ?_;refine aY ?_;refine zf 28 ?_ (e:=by exact decide_eq_false Qv);refine ba ?_;refine aB ?_;refine az (t:=16) (v':=(.bool nr)) rfl (by(rw[hnr,decide_eq_false Qv];rfl)) ?_;refine Me (()) (trivial)
 rintro u hI;refine bA ?_;refine az (t:=37) (v':=(DE DD (dr+re))) rfl (by(refine congrArg (Value.int .i64) ?_;first|rfl|exact wrap_i64 (by omega))) ?_;refine bj ?_;refine av ?_;refine cG (ι:=Unit) (FZ [38,31]) (λu4=>True) (λu4=> [(68, .bool false)]) (λu4=> [rmH b5 dr re bu li lo cr Qg,Xa b4 ra n rc qa qc sm,Xb b3 ek ev va vc x2 x3 x4 x5 x6 x7 x8,r9H b2 a ea el ec,r8H b1 c ka kc da dc mv,SW z N]) ?_ ?_
 ·refine cq ?_
  refine aY ?_;refine zf 41 ?_;refine ba ?_;refine zf 46 ?_;refine aY ?_;refine zf 50 ?_;refine ba ?_;refine zf 55 ?_;refine ba ?_;refine zf 60 ?_;refine bj ?_;by_cases hg:0<dr+re
  ·refine zt 63 ?_
   refine ba ?_;refine aB ?_;refine az (t:=68) (v':=(.bool false)) rfl (by(first|rfl|(refine congrArg Value.bool ?_;exact Ar)|(simp;omega))) ?_;refine Me (()) (trivial)
  refine zf 63 ?_;refine ba ?_;refine aB ?_;refine Me (()) (trivial)
 rintro u4 hI;refine cY ?_;refine zl Aq (wf) .nil (λ_ le _=>⟨hK.mono le,hV.mono le⟩) ?_;refine zl Aq (cf) .nil (λ_ le _=>hL.mono le) ?_;refine bj ?_;refine av ?_;refine cG (ι:=Bool) (FZ [75,9]) (λb7=>b7=decide (qd M.C.ae w<0\/w=0)) (λb7=> [(83, .bool b7)]) (λb7=> [rmH b5 dr re bu li lo cr Qg,Xa b4 ra n rc qa qc sm,Xb b3 ek ev va vc x2 x3 x4 x5 x6 x7 x8,r9H b2 a ea el ec,r8H b1 c ka kc da dc mv,SW z N]) ?_ ?_
 ·refine cq ?_
  refine bj ?_;by_cases hc0:qd M.C.ae w<0
  ·refine zt 77 ?_ (e:=by exact decide_eq_true hc0)
   refine bA ?_;refine aB ?_;refine Me (true) ((decide_eq_true (.inl hc0)).symm)
  refine zf 77 ?_ (e:=by exact decide_eq_false hc0);refine bj ?_;refine zl Aq (wf) .nil (λ_ le _=>⟨hK.mono le,hV.mono le⟩) ?_;refine bn ?_;refine aB ?_;refine az (t:=83) (v':=(.bool (decide (qd M.C.ae w<0\/w=0)))) rfl (by(refine congrArg Value.bool ?_;rw[acR];simp only[decide_eq_true_eq];omega)) ?_;refine Me (decide (qd M.C.ae w<0\/w=0)) (rfl)
 rintro b7 Xv;by_cases hcz:qd M.C.ae w<0\/w=0
 ·rw[decide_eq_true hcz]at Xv
  subst Xv;obtain⟨n1,n2,n3⟩:=Ej (hcz.symm.imp id Lt.1);refine ba ?_;refine zt 86 ?_;refine bL ?_;refine Rt [SW z N] results29 ?_;exact⟨by rw[n1];rfl,rfl⟩
 rw[decide_eq_false hcz]at Xv;subst Xv;obtain⟨i,hi⟩:∃i,M.C.ae.findIdx? (λz=>decide (w<=z))=some i:=by
  cases h:M.C.ae.findIdx? (λz=>decide (w<=z))with
  |none=>exact absurd (.inl (Lt.2 h)) hcz
  |some i=>exact⟨i,rfl⟩
 have ei:=Pz hi;have au:=tC hi;rw[hn]at au;have Ei:=Ei i hi;have pno:=pno i hi;have hsi:=hs i au;have ar:(aE (p7 M n))[i]?=some (DE DD ((M.C.rw i).eG)):=eL (by unfold p7;rw[abf,alG au];rfl);have aq:(aE (p9 M n))[i]?=some (DE DD (BZ M i)):=eL (by unfold p9;rw[abf,alG au];rfl);have lr:=RF M n;have lq:=RG M n;have ha1:ra.isSome=true:=hR.some (by rw[fq,lr];omega);have ha2:qa.isSome=true:=hQ.some (by rw[fq,lq];omega);rw[ei]at*;refine aY ?_;refine av ?_;refine iL 12 mix (.cons (.there .here) .nil) λF1 jq bV aI=> ?_;obtain⟨q1,_⟩:=bV;have hR1:=hR.mono jq;have hQ1:=hQ.mono jq;refine bj ?_;refine Ti (Ix lp (j:=i)) ?_;refine ba ?_;refine Ti (Ix lp (j:=i)) ?_;refine bn ?_;refine gG aI ?_;refine aw ?_;by_cases pM:(M.C.rw i).eG+1<=BZ M i
 ·obtain⟨n1,n2⟩:=Ei pM
  obtain⟨y1,y2,y3⟩:=z0 n2;refine eJ ?_;refine aY ?_;refine zt 104 ?_;refine aY ?_;refine zt 108 ?_ (e:=by exact(by rw[n1];rfl));refine cY ?_;refine Rt [SW z N] results29 ?_;exact⟨by rw[decide_eq_true y3],rfl⟩
 refine cM ?_;refine bA ?_;rcases nr with _|_
 ·refine cM ?_ (e:=by rfl)
  refine bA ?_;by_cases hg:dr+re=0
  ·refine zt 192 ?_ (e:=by exact decide_eq_true hg)
   refine cL ?_;refine Rt [SW z N] results29 ?_;exact⟨rfl,rfl⟩
  have hk17:=(pg.resolve_left (by omega)).2.2.2;refine zf 192 ?_ (e:=by exact decide_eq_false hg);refine ba ?_;rcases hk17 with h1|h7
  ·refine zt 197 ?_
   refine bL ?_;refine Rt [SW z N] results29 ?_;exact⟨rfl,rfl⟩
  refine zf 197 ?_;refine bL ?_;refine Rt [SW z N] results29 ?_;exact⟨by rw[decide_eq_true (show(a.kind:Int)=7 by omega)],rfl⟩
 obtain⟨n1,n2,n3⟩:=pno rfl;obtain⟨y1,y2,y3⟩:=z0 n1;refine aw ?_;refine av ?_;refine cG (ι:=Unit) (FZ [19,2,114,9]) (λu12=>True) (λu12=> [(20, .bool (N.live k).isSome)]) (λu12=> [rmH b5 dr re bu li lo cr Qg,Xa b4 ra n rc qa qc sm,Xb b3 ek ev va vc x2 x3 x4 x5 x6 x7 x8,r9H b2 a ea el ec,r8H b1 c ka kc da dc mv,SW z N]) ?_ ?_
 ·rcases iG:N.live k with _|u
  ·rw[iG]at ff
   refine aY ?_;refine Li (Ix (j:=0) pI) ?_;refine aw ?_;refine zl Aq (ff) (.cons (.t4 (.there .here)) .nil) DA ?_;refine bj ?_;refine Lp (oA wk λb6=> ?_);refine Lp (gE nG ?_ (h1:=by simp[Mg,Value.oneCell',aW]));refine aw ?_;refine aB ?_;refine Hh (H':= [rmH b5 dr re bu li lo cr Qg,Xa b4 ra n rc qa qc sm,Xb b3 ek ev va vc x2 x3 x4 x5 x6 x7 x8,r9H b2 a ea el ec,r8H b1 c ka kc da dc mv,SW z N]) ?_;refine Me (()) (trivial)
  rw[iG]at ff;refine aY ?_;refine Li (Ix (j:=0) pI) ?_;refine aw ?_;refine Lp (oC Aq rfl rfl (ff) (.cons (.t4 (.there .here)) .nil) DA ?_);rintro v H' ⟨vb,rfl,rfl⟩;refine bS ?_;refine bj ?_;refine Lp (oA wk λb7=> ?_);refine Lp (gE nG ?_ (h1:=by simp[tR,Value.oneCell',aW]));refine aw ?_;refine aB ?_;refine Hh (H':= [rmH b5 dr re bu li lo cr Qg,Xa b4 ra n rc qa qc sm,Xb b3 ek ev va vc x2 x3 x4 x5 x6 x7 x8,r9H b2 a ea el ec,r8H b1 c ka kc da dc mv,SW z N]) ?_;refine Me (()) (trivial)
 rintro u12 hI;generalize (N.live k).isSome=is at*;have fM:oH c.ax=(decide (c.ax=8) ||decide (c.ax=9) ||decide (c.ax=12) ||decide (c.ax=13)):=by
  unfold oH;rw[acR];simp only[Bool.or_eq_true,decide_eq_true_eq];omega
 generalize oH c.ax=st at*;refine av ?_;refine cG (ι:=Unit) (FZ [21,1,123,18]) (λu13=>True) (λu13=> [(21, .bool st)]) (λu13=> [rmH b5 dr re bu li lo cr Qg,Xa b4 ra n rc qa qc sm,Xb b3 ek ev va vc x2 x3 x4 x5 x6 x7 x8,r9H b2 a ea el ec,r8H b1 c ka kc da dc mv,SW z N]) ?_ ?_
 ·subst fM
  refine ba ?_;refine aM (t:=126) rfl ?_ ?_
  ·intro cB
   replace cB:=aG cB;refine kT ?_;refine aB ?_;refine Me (()) (trivial)
  intro cB;replace cB:=aG cB;refine ba ?_;refine aM (t:=131) rfl ?_ ?_
  ·intro cK
   replace cK:=aG cK;refine bD ?_;refine aB ?_;refine Me (()) (trivial)
  intro cK;replace cK:=aG cK;refine ba ?_;refine aM (t:=136) rfl ?_ ?_
  ·intro cy
   replace cy:=aG cy;refine ba ?_;refine aB ?_;refine Me (()) (trivial)
  intro cy;replace cy:=aG cy;refine ba ?_;refine aB ?_;refine Me (()) (trivial)
 rintro u13 hI;rcases lS:(M.live k).isSome with _|_
 ·rw[lS]at n3
  obtain rfl:is=false:=n3;have t0:(M.C.rw i).eG=0:=n2.resolve_right λ⟨_,p,hp,_⟩=>by rw[hp]at lS;cases lS
  refine bj ?_;refine zf 142 ?_ (e:=by rfl);refine BV ?_;refine zt 158 ?_;refine ba ?_;refine zt 163 ?_ (e:=by exact decide_eq_true y3);refine bj ?_;refine Li (Ix lp (j:=i)) ?_;refine bj ?_;refine zt 170 ?_;refine kT ?_;refine zf 185 ?_ (e:=by rfl);refine bn ?_;refine Li (Bq u_4) ?_;refine ba ?_;refine Rt [SW z N] results29 ?_;exact⟨rfl,rfl⟩
 rw[lS,Bool.true_and]at n3;subst n3;refine bj ?_;refine zt 142 ?_ (e:=by rfl);refine bj ?_;refine Li (Ls sE) ?_;refine ba ?_;refine zl Aq (cf2) .nil (λ_ le _=>hL.mono le) ?_;refine cu ?_;refine zt 158 ?_;refine ba ?_;refine zt 163 ?_ (e:=by exact decide_eq_true y3);refine bj ?_;refine Li (Ix lp (j:=i)) ?_;refine bj ?_;rcases n2 with t0|⟨t1,p,u7,dL⟩
 ·refine zt 170 ?_
  refine kT ?_;refine zt 185 ?_ (e:=by rfl);refine bn ?_;refine Li (Bq u_4) ?_;refine ba ?_;refine Rt [SW z N] results29 ?_;exact⟨by simp,rfl⟩
 have ho:=gY i p u7 dL (by rw[hn];exact au);refine zf 170 ?_;refine bj ?_;refine Li (Ix lp (j:=i)) ?_;refine bj ?_;refine zt 177 ?_;refine ba ?_;refine zt 182 ?_ (e:=by exact decide_eq_true ho);refine bj ?_;refine zt 185 ?_ (e:=by rfl);refine bn ?_;refine Li (Bq u_4) ?_;refine ba ?_;refine Rt [SW z N] results29 ?_;exact⟨by simp,rfl⟩
theorem aau:Ah FY 62 0=some (0,3):=by kernel_rfl
theorem aat:Ah FY 62 1=some (1,3):=by kernel_rfl
theorem aas:Ah FY 62 4=some (4,3):=by kernel_rfl
theorem T8 (M:Mo)(c:dy)(k:F9)(ev:F9)(h:∀p,M.live k=some p->(M.it p).val=ev):M.jS c k (M.live k)=wo c k (M.live k).isSome ev:=by
 unfold Mo.jS wo;cases ho:M.live k with
 |none=>rfl
 |some p=>rw[<-h p ho];rfl
structure OldR (M:Mo)(k:F9)(o:F9×F9×Value×Value×Value×Value×Value×Value×Value):Prop where
 l1:o.1.length<1048576
 l2:o.2.1.length<1048576
 o1:o.2.2.1.oneCell'=true
 o2:o.2.2.2.1.oneCell'=true
 o3:o.2.2.2.2.1.oneCell'=true
 o4:o.2.2.2.2.2.1.oneCell'=true
 o5:o.2.2.2.2.2.2.1.oneCell'=true
 o6:o.2.2.2.2.2.2.2.1.oneCell'=true
 o7:o.2.2.2.2.2.2.2.2.oneCell'=true
 v:∀p,M.live k=some p->(M.it p).val=o.2.1
 w:∀i p,M.live k=some p->M.C.cl p=i->i<M.C.ae.length->qd M.C.ae (58+o.1.length+o.2.1.length)<=i
theorem PO{c:dy}(hb:lY c=false)(hv:5<=c.ax/\c.ax<=13):∃k,c.keys= [k]:=by
 unfold lY at hb;rw[ak9,ak9,decide_eq_false_iff_not]at hb;have h1:bm c.ax=1:=by unfold bm;rw[if_neg (by omega),if_pos (by omega)]
 have h2:=hb.1.1;rw[h1]at h2
 match hk:c.keys with
 | []=>rw[hk]at h2;exact absurd (.inr (.inl ⟨by decide,rfl⟩)) h2
 | [k]=>exact⟨k,rfl⟩
 |k::q::r=>rw[hk]at h2;exact absurd (.inr (.inr ⟨rfl,by simp⟩)) h2
set_option maxHeartbeats 4000000 in
theorem jB (t:q9)(p:tO)(l:List rZ)(a:FX)(cap:Nat)(hl:l.length<=9223372036854775807):aK FY 5 [.agg (GY t p a l.length cap).toArray]
  (λh=>fD h a (su l)/\∀d∈l,yi h d) [] (λv H=>v= .bool true/\H= []):=by
 have w:=UU t p a l.length cap;obtain⟨u7,dL⟩:=t.RJ;obtain⟨hn1,XK⟩:=t.len 1024;have e1:bF (t.cfg t.pgs)=bF (t.cfg 1024):=rfl;have e2:∀M k,xQ (t.cfg t.pgs) M k->M.C.ae=bF (t.cfg 1024):=λM k S=>S.zs.1;have abV:=λM k (S:xQ (t.cfg t.pgs) M k) B (O:bM B M)=>S.numr O;have afl:=λM k (S:xQ (t.cfg t.pgs) M k) (K:Mi M) (Rw:qp M) ht=>WJ K Rw S.h ht (λn hn=>by rw[S.zs.1];exact t.fits t.pgs (by rw[<-S.cf];exact hn));have lh:=λ(z:Ly) h1 h2 M k (S:xQ (t.cfg t.pgs) M k) hs h0 d (D:yi h0 d)=>agL z h1 h2 S hs d D;have start:=xQ.start (c:=t.cfg t.pgs) p;have e4:jR (t.cfg t.pgs)= [DE DD 4096,DE DD t.pgs,DE DD (dR t.fac 150 400),DE DD t.lV,DE DD (dR t.lim t.lV 4096),DE DD (dR t.hot 1 45),DE DD (dR t.warm 1 45)]:=rfl;rw[e4]at w;rw[e1]at w abV;generalize gu (t.cfg t.pgs) (Ac p) ⟨1,0,0⟩=M0 at*;generalize t.cfg t.pgs=cg at*;generalize bF (t.cfg 1024)=zsl at*;unfold GY at*;refine af func5 rfl ntmps5 rfl ?_;rintro F ⟨hD,lS⟩;refine aw ?_;refine Lp (oB λb1=> ?_);refine aY ?_;refine Lp (oC Aq rfl rfl (w) .nil DA ?_);rintro v H' ⟨z,la,lc,z1,z2,rfl,rfl⟩;refine bS ?_;refine aY ?_;refine Lp (oA kA λb2=> ?_);refine aY ?_;refine av ?_;refine Hh (H':= [own la lc 3 1 (aE zsl),SW z M0,zT b1 t p a l.length cap]) ?_;refine cL ?_;refine Lo (ι:=Nat×Mo) (FZ [2,1,6,6,20,95]) (λs=>s.1<=l.length/\s.1<=600/\∃k,xQ cg s.2 k/\Am k s.1) (λs=> [(6,DE DD s.1)]) (λs=> [own la lc 3 1 (aE zsl),SW z s.2,zT b1 t p a l.length cap]) (λs=>600-s.1) ((0,M0)) ⟨abn _,abn _,0,start,⟨abn _⟩⟩ ?_;rintro⟨i,M⟩ hI
 try dsimp only at hI⊢
 obtain⟨hil,xh,k,S,hkb⟩:=hI;refine aw ?_;refine av ?_;refine cG (ι:=Unit) (FZ [20,9]) (λu=>True) (λu=> [(28, .bool (decide ((i:Int)<l.length)&&decide ((i:Int)<600)))]) (λu=> [own la lc 3 1 (aE zsl),SW z M,zT b1 t p a l.length cap]) ?_ ?_
 ·refine cq ?_
  refine bA ?_;refine aM (t:=25) rfl ?_ ?_
  ·intro cB
   replace cB:=aG cB;refine bj ?_;refine aB ?_;refine Me (()) (trivial)
  intro cB;replace cB:=aG cB;refine bj ?_;refine aB ?_;refine Me (()) (trivial)
 rintro u hI;by_cases ct:i<l.length/\i<600
 ·obtain⟨x,e1⟩:∃x,l[i]?=some x:=⟨_,aa0 ct.1⟩
  have ox:=lS x (List.mem_of_getElem? e1);have GB:=WH l;have qf:=hkb.le6 ct.2;have a0:a.isSome=true:=hD.some (by omega);have pT:(su l)[i*12+11]?=some (DE DD x.tick):=WG l i x e1 11 (by omega);have pC:((su l).drop (i*12+0)).take 11=dB x.c x.ka x.kc x.da x.dc x.mv:=WI l i x e1 0 11 (by omega);have tw:=YC x.c x.ka x.kc x.da x.dc x.mv ox.one (by have:=ox.kn;omega) ox.dn;have d1:=lh z (by omega) (by omega) M k S qf _ x ox;have bd:=Zc x.c x.ka x.kc x.da x.dc x.mv ox.one (by have:=ox.kn;omega) ox.kl;have r0:=ox.kn;refine eJ ?_ (e:=by exact(by simp;omega));refine bn ?_;refine av ?_;refine cG (ι:=Mo) (FZ [2,1,7,5,31,84]) (λN=>∃k2,xQ cg N k2/\Am k2 (i+1)) (λN=> []) (λN=> [own la lc 3 1 (aE zsl),SW z N,zT b1 t p a l.length cap]) ?_ ?_
  ·refine oW ?_
   refine aY ?_;refine Li (Ix Ec) ?_;refine Li (Fam V4) ?_;refine aw ?_;refine Lp (oA QP λb3=> ?_);refine Lp (gE JS ?_ (h1:=by simp[dB,Value.oneCell',aW];exact ox.one));refine bn ?_;refine av ?_;refine Hh (H':= [SW z M,own la lc 3 1 (aE zsl),zT b1 t p a l.length cap,ag b3 42 (dB x.c x.ka x.kc x.da x.dc x.mv)]) ?_;refine qB λwa wc B O=> ?_;have S2:=S.dO ⟨O.Qi,O.LJ.nd,O.LJ.lv,O.LJ.on⟩ z.hot z.warm x.c;by_cases abS:0<x.tick
   ·refine cq ?_
    refine bj ?_;refine Li (Ix Ec) ?_;refine Li (Fam yV) ?_;refine bj ?_;refine eJ ?_ (e:=by exact decide_eq_true abS);have i1:=S.r.bc;refine ba ?_;refine Li (Ix Ec) ?_;refine Li (Fam yV) ?_;refine aw ?_;refine zl Aq (YG xe z M x.tick (by omega)) (.cons .here .nil) DA ?_;refine aY ?_;refine Hh (H':= [own la lc 3 1 (aE zsl),SW z (M.tick x.tick),zT b1 t p a l.length cap]) ?_;refine Me (M.tick x.tick) (⟨k,S.tick _,hkb.up⟩)
   refine cq ?_;refine bj ?_;refine Li (Ix Ec) ?_;refine Li (Fam yV) ?_;refine bj ?_;refine cM ?_ (e:=by exact decide_eq_false abS);refine bj ?_;refine av ?_;refine cG (ι:=Unit) (FZ [52,17]) (λu10=>True) (λu10=> [(68, .bool (lY x.c||decide (x.c.ax<5) ||decide (13<x.c.ax) ||decide (x.c.ax=11)))]) (λu10=> [SW z M,own la lc 3 1 (aE zsl),zT b1 t p a l.length cap,ag b3 42 (dB x.c x.ka x.kc x.da x.dc x.mv)]) ?_ ?_
   ·refine cq ?_
    refine aw ?_;refine zl Aq (bd) .nil (λ_ le _=>ox.keys.mono le) ?_;refine aw ?_;refine aM (t:=54) rfl ?_ ?_
    ·intro cB
     replace cB:=aG cB;refine fu ?_;refine aB ?_;refine Me (()) (trivial)
    intro cB;replace cB:=aG cB;refine ba ?_;refine aM (t:=59) rfl ?_ ?_
    ·intro cK
     replace cK:=aG cK;refine cu ?_;refine aB ?_;refine Me (()) (trivial)
    intro cK;replace cK:=aG cK;refine ba ?_;refine aM (t:=64) rfl ?_ ?_
    ·intro cy
     replace cy:=aG cy;refine aY ?_;refine aB ?_;refine Me (()) (trivial)
    intro cy;replace cy:=aG cy;refine aY ?_;refine aB ?_;refine Me (()) (trivial)
   rintro u10 hI;by_cases fM:lY x.c=false/\5<=x.c.ax/\x.c.ax<=13/\x.c.ax≠11
   ·obtain⟨hb,hv⟩:=fM
    obtain⟨key,hky⟩:=PO hb ⟨hv.1,hv.2.1⟩;refine cM ?_ (e:=by exact(by rw[hb];simp;omega));have qh:=ox.kl key (by rw[hky];exact List.mem_cons_self);have uX:(fk x.c.keys)[0]?=some (aW key):=by rw[hky];rfl
    have Af:x.c.keys.length=1:=by rw[hky];rfl
    have Ql:x.ka.isSome=true:=ox.keys.some (by simp[fk];omega);have oxk:=ox.keys;have KM:Mi M:=(O.mi (M:=M.aN wa wc)).rf (O.mi (M:=M.aN wa wc)).x rfl rfl rfl rfl rfl rfl rfl rfl;have ff:=yX z M key qh;have U0:=abV _ _ (S.aN wa wc) B O;have U:Yp zsl M:=⟨U0.z,U0.tk,U0.sz⟩;have hz:=e2 M k S;have RW1:qp (M.aN wa wc):=O.row;have RW2:qp M:=RW1;have HL1:∀c,c<(M.aN wa wc).C.ae.length->((M.aN wa wc).C.rw c).eG<=((M.aN wa wc).C.rw c).pgs*((M.aN wa wc).C.aj/(M.aN wa wc).C.sz c):=λc hc=>O.hold hc;have RP:yA M x.c key (M.dO z.hot z.warm x.c):=afl M k S KM RW2 (λc hc=>HL1 c hc) x.c hb hv key (by rw[hky];rfl) z.hot z.warm;have gY:∀u,M.live key=some u->58+(M.it u).key.length+(M.it u).val.length<=M.C.sz (M.C.cl u)/\M.C.cl u<M.C.ae.length:=λu hu=>O.own (M:=M.aN wa wc) (Ni KM hu).1;have tM:∀i,i<zsl.length->M.C.sz i<=4096:=U.sz;refine bn ?_;refine av ?_;refine cG (ι:=Nat×FX×Nat×(F9×F9×Value×Value×Value×Value×Value×Value×Value)) (FZ [8,2,89,9]) (λg=>OldR M key g.2.2.2) (λg=> [(8,DC g.1),(9, .bool (M.live key).isSome)]) (λg=> [SW z M,own g.2.1 g.2.2.1 5 1 (ak g.2.2.2.2.1),ag g.1 56 [aW g.2.2.2.1, .slice g.2.1 g.2.2.2.2.1.length g.2.2.1,g.2.2.2.2.2.1,g.2.2.2.2.2.2.1,g.2.2.2.2.2.2.2.1,g.2.2.2.2.2.2.2.2.1,g.2.2.2.2.2.2.2.2.2.1,g.2.2.2.2.2.2.2.2.2.2.1,g.2.2.2.2.2.2.2.2.2.2.2],own la lc 3 1 (aE zsl),zT b1 t p a l.length cap,ag b3 42 (dB x.c x.ka x.kc x.da x.dc x.mv)]) ?_ ?_
    ·rcases iG:M.live key with _|u
     ·rw[iG]at ff
      refine aY ?_;refine Li (Ix (j:=0) pI) ?_;refine aw ?_;refine zl Aq (ff) (.cons .here .nil) DA ?_;refine bj ?_;refine Lp (oA wk λb4=> ?_);refine Lp (gE nG ?_ (h1:=by simp[Mg,Value.oneCell',aW]));refine aw ?_;refine aB ?_;refine cX 5 1 ?_;refine Hh (H':= [SW z M,own none 0 5 1 [],ag b4 56 Mg,own la lc 3 1 (aE zsl),zT b1 t p a l.length cap,ag b3 42 (dB x.c x.ka x.kc x.da x.dc x.mv)]) ?_;refine Me ((b4,none,0,([],[],DE DB 0,DE DD 0,DE DB 0,DE DD 0, .bool false, .bool false, .bool false))) (⟨show([]:F9).length<1048576 from by decide,show([]:F9).length<1048576 from by decide,rfl,rfl,rfl,rfl,rfl,rfl,rfl,(λp hp=>by rw[iG]at hp;cases hp),(λi p hp=>by rw[iG]at hp;cases hp)⟩)
     rw[iG]at ff;obtain⟨w1,w2⟩:=gY u iG;have w3:=tM (M.C.cl u) (by rw[<-hz];exact w2);refine aY ?_;refine Li (Ix (j:=0) pI) ?_;refine aw ?_;refine Lp (oC Aq rfl rfl (ff) (.cons .here .nil) DA ?_);rintro v H' ⟨vb,rfl,rfl⟩;refine bS ?_;refine bj ?_;refine Lp (oA wk λb5=> ?_);refine Lp (gE nG ?_ (h1:=by simp[tR,Value.oneCell',aW]));refine aw ?_;refine aB ?_;refine Hh (H':= [SW z M,own (some ⟨vb,0,none⟩) (M.it u).val.length 5 1 (ak (M.it u).val),ag b5 56 (tR (M.it u) (.slice (some ⟨vb,0,none⟩) (M.it u).val.length (M.it u).val.length)),own la lc 3 1 (aE zsl),zT b1 t p a l.length cap,ag b3 42 (dB x.c x.ka x.kc x.da x.dc x.mv)]) ?_;refine Me ((b5,some ⟨vb,0,none⟩,(M.it u).val.length,((M.it u).key,(M.it u).val,DE DB ((M.it u).fl),DE DD ((M.it u).exp),DE DB ((M.it u).tok),DE DD ((M.it u).tch), .bool (decide ((M.it u).fe/2 % 2=1)), .bool (decide ((M.it u).fe/4 % 2=1)), .bool (decide ((M.it u).fe/8 % 2=1))))) (⟨by dsimp only;omega,by dsimp only;omega,rfl,rfl,rfl,rfl,rfl,rfl,rfl,(λp hp=>by rw[iG]at hp;cases hp;rfl),(λi p hp hc hi=>by rw[iG]at hp;cases hp;subst hc;exact aaL hi w1)⟩)
    rintro⟨b8,va,vc,o⟩ hO;obtain⟨ek,ev,x2,x3,x4,x5,x6,x7,x8⟩:=o;obtain⟨l1,l2,o1,o2,o3,o4,o5,o6,o7,ov,ow⟩:=hO;dsimp only at l1 l2 o1 o2 o3 o4 o5 o6 o7 ov ow⊢;have lk:=Vk z M zsl.length (by rw[hz]) (λk hk=>U.sums XK hk) (by omega);have hwe:=T8 M x.c key ev ov;have Ax:∀i,i<zsl.length->(M.C.rw i).eG<=1000000:=λi hi=>by have:=U.tk i hi;omega
    refine aY ?_;refine Lp (oC Aq rfl rfl (lk) (.cons .here .nil) DA ?_);rintro v H' ⟨ra,rc,qa,qc,rfl,rfl⟩;refine bS ?_;refine Lp (oA QN λb6=> ?_);refine Lp (gE Ri ?_ (h1:=by simp[tR,Value.oneCell',aW]));refine aw ?_;refine Hh (H':= [SW z M,Xa b6 ra zsl.length rc qa qc (GI (λc=>(M.C.rw c).eG) zsl.length:Int),own ra rc 3 1 (aE (p7 M zsl.length)),own qa qc 3 1 (aE (p9 M zsl.length)),own va vc 5 1 (ak ev),Xb b8 ek ev va vc x2 x3 x4 x5 x6 x7 x8,own la lc 3 1 (aE zsl),zT b1 t p a l.length cap,ag b3 42 (dB x.c x.ka x.kc x.da x.dc x.mv)]) ?_;have rf:=UF z M (M.dO z.hot z.warm x.c).2 (M.dO z.hot z.warm x.c).1 x.c x.ka x.kc x.da x.dc x.mv ox.one key [] hky qh (by have:=ox.dn;omega) ox.dl;generalize M.dO z.hot z.warm x.c=R1 at*;obtain⟨⟨k1,DV,n1,t1⟩,M'⟩:=R1;refine bj ?_;refine Lp (oC Aq rfl rfl (tw) .nil (λ_ le _=>⟨ox.keys.mono le,ox.data.mono le⟩) ?_);rintro v H' ⟨ka1,kc1,da1,dc1,q1,q2,rfl,rfl⟩;refine bS ?_;refine Lp (oC Aq rfl rfl (d1 ka1 kc1 da1 dc1) (.cons (.t2 .here) .nil) (λ_ le au=>⟨bK (au.nth 1 rfl),bK (au.nth 0 rfl)⟩) ?_);rintro v H' ⟨ea1,ec1,l1',hl1,rfl,rfl⟩;refine bS ?_;have rg:=rf ea1 l1'.length ec1 ek ev va vc l2 l1 x2 x3 x4 x5 x6 x7 x8 ⟨o1,o2,o3,o4,o5,o6,o7⟩ RP hwe ow zsl.length (by rw[hz]) (by omega) Ax ra rc qa qc (GI (λc=>(M.C.rw c).eG) zsl.length:Int) la lc;rw[hz]at rg;unfold xZ;refine Lp (oA nz λb7=> ?_);refine Lp (gE ey ?_ (h1:=by simp[gd,Value.oneCell',aW,bB]));refine aw ?_;refine Hh (H':= [SW z M',ag b7 52 (gd k1 (.slice ea1 l1'.length ec1) n1 t1),Xa b6 ra zsl.length rc qa qc (GI (λc=>(M.C.rw c).eG) zsl.length:Int),own ra rc 3 1 (aE (p7 M zsl.length)),own qa qc 3 1 (aE (p9 M zsl.length)),own va vc 5 1 (ak ev),Xb b8 ek ev va vc x2 x3 x4 x5 x6 x7 x8,own la lc 3 1 (aE zsl),zT b1 t p a l.length cap,ag b3 42 (dB x.c x.ka x.kc x.da x.dc x.mv)]) ?_;refine cY ?_;refine zl Aq (rg) (.cons .here .nil) (λ_ le au=>⟨ox.keys.mono le,bK (au.nth 4 rfl),bK (au.nth 2 rfl),bK (au.nth 3 rfl),bK (au.nth 6 rfl)⟩) ?_;refine ba ?_;refine Hh (H':= [own la lc 3 1 (aE zsl),SW z M',zT b1 t p a l.length cap]) ?_;refine Me (M') (⟨k+(x.c.keys.length+1),S2,hkb.add (by omega)⟩)
   have zC:=aaH (M:=M) x.c (λhb hv=>fM ⟨hb,hv⟩) z.hot z.warm;refine eJ ?_ (e:=by exact(by rcases hb:lY x.c with _|_<;>first|(simp;done)|(have q1:¬(5<=x.c.ax/\x.c.ax<=13/\x.c.ax≠11):=λq=>fM ⟨hb,q⟩;simp;omega)));generalize M.dO z.hot z.warm x.c=R1 at*;obtain⟨⟨k1,DV,n1,t1⟩,M'⟩:=R1;refine bj ?_;refine Lp (oC Aq rfl rfl (tw) .nil (λ_ le _=>⟨ox.keys.mono le,ox.data.mono le⟩) ?_);rintro v H' ⟨ka1,kc1,da1,dc1,q1,q2,rfl,rfl⟩;refine bS ?_;refine Lp (oC Aq rfl rfl (d1 ka1 kc1 da1 dc1) (.cons (.t2 .here) .nil) (λ_ le au=>⟨bK (au.nth 1 rfl),bK (au.nth 0 rfl)⟩) ?_);rintro v H' ⟨ea1,ec1,l1,hl1,rfl,rfl⟩;refine bS ?_;have mf:=AU z M';obtain⟨y1,y2,y3⟩:=zC;dsimp only at y1 y2 y3;generalize M'.v.mt=mt at*;obtain⟨dr,re,bu,li,lo,cr,Qg⟩:=mt;dsimp only at y1 y2 y3;subst y1 y2 y3;unfold mtC at mf;refine aY ?_;refine zl Aq (mf) (.cons (.t2 .here) .nil) DA ?_;refine Li (Fgs aau bz) ?_;refine bn ?_;refine zf 77 ?_ (e:=by rfl);refine aw ?_;refine zl Aq (mf) (.cons .here .nil) DA ?_;refine Li (Fgs aat bz) ?_;refine bj ?_;refine zf 83 ?_ (e:=by rfl);refine aw ?_;refine zl Aq (mf) (.cons .here .nil) DA ?_;refine Li (Fgs aas bz) ?_;refine cu ?_;refine Hh (H':= [own la lc 3 1 (aE zsl),SW z M',zT b1 t p a l.length cap]) ?_;refine Me (M') (⟨k+(x.c.keys.length+1),S2,hkb.add (by omega)⟩)
  rintro N hN;obtain⟨k2,S2,rM⟩:=hN;refine aY ?_;refine aB ?_;refine Hh (H':= [own la lc 3 1 (aE zsl),SW z N,zT b1 t p a l.length cap]) ?_;refine Ro ((i+1,N)) (⟨ct.1,ct.2,k2,S2,rM⟩) ((by dsimp only;omega))
 refine cM ?_ (e:=by exact(by simp;omega));refine cu ?_;refine Rt [] results5 ?_;exact⟨rfl,rfl⟩
end Go.Proofs.YtcbcjolpdljbiaaGreat
