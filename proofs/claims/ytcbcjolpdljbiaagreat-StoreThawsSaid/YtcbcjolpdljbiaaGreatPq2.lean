/- Part Pq2 of the proof. -/
import Derived.Test.YtcbcjolpdljbiaaGreatPo2
set_option maxRecDepth 100000
open Go.Proofs.YtcbcjolpdljbiaaGreat.T
open List renaming replicate -> aae, set_cons_zero -> ags, set_cons_succ -> agt
open Nat renaming zero_le -> abL
open Go.Proofs.Tryz
open Go.Value renaming int -> Dm
open Go.IntKind renaming i64 -> Dl, u64 -> Dj
namespace Go.Proofs.YtcbcjolpdljbiaaGreat
open Tryz renaming prog -> FM
open Go Go.dC Go.Proofs.YtcbcjolpdljbiaaGreat.Cs
theorem w9 (w:FI)(hw:w.length<=100)(i:Nat)(hi:i<1000000):aG FM 24 [a8 w,Dm Dl i] uT [] (λv H=>v=a8 (dR w i)/\H= []):=by
 have hdg:=IV i (by omega);have hl:(dH i).length<=20:=by have:=tX 20 i (by omega);omega
 unfold dR;refine af func24 rfl ntmps24 rfl ?_;intro F _;refine bK ?_;refine Lp (oC Aa rfl rfl (hdg) .nil Di ?_);rintro v H' ⟨a5,c5,hc5,rfl,rfl⟩;refine bR ?_;refine Lp (oTs fS sE wu ?_);refine Li (ScE) ?_;refine bq ?_;refine Rt [] results24 ?_;exact⟨rfl,rfl⟩
theorem Zt (t:Nat)(ht:t<1000000):aG FM 27 [Dm Dl t] uT [] (λv H=>v=Dm Dl (if t=0 then 0 else(1+t:Nat))/\H= []):=by
 refine af func27 rfl ntmps27 rfl ?_;intro F _;refine cV ?_;by_cases h:t=0
 ·refine fe ?_
  refine bn ?_;refine Rt [] results27 ?_;rw[if_pos h];exact⟨rfl,rfl⟩
 refine cN ?_;refine cV ?_;refine Rt [] results27 ?_;rw[if_neg h];exact⟨by refine congrArg (Value.int .i64) ?_;omega,rfl⟩
def Lm (n:Nat)(M:Mo)(i:Nat):Prop:=∃s,s<=2*i/\Wst (cT n) M s
theorem Lm.le{n i j:Nat}{M:Mo}(S:Lm n M i)(h:i<=j):Lm n M j:=by
 obtain⟨s,h1,h2⟩:=S;exact⟨s,by omega,h2⟩
theorem Lm.dO{n i:Nat}{M N:Mo}(S:Lm n M i)(K:Mi M){hot warm:Nat}{v ex:Int}{k d:FI}{fl:Nat}{a:hG}(h:M.dO hot warm ⟨v,[k],fl,ex,0,0,d,false,false,[]⟩=(a,N)):Lm n N (i+1):=by
 obtain⟨s,h1,h2⟩:=S;have w:=h2.dO K.yI.i.co hot warm ⟨v,[k],fl,ex,0,0,d,false,false,[]⟩;rw[h]at w;exact⟨_,(by show s+1+1<=_;omega),w⟩
theorem Lm.start{n:Nat}(p:pD):Lm n (dU (cT n) (jk p) ⟨1,0,0⟩) 0:=⟨0,Nat.le_refl _,rfl,J1 _ _ _,(CO p).1,rfl,⟨λo=>(by cases o),⟨rfl,rfl,rfl⟩⟩⟩
theorem BO (z:Ly)(OV:z.hot<=90)(OU:z.warm<=90){n i kd:Nat}{M N:Mo}(S:Lm n M i)(hi:i<=4000){v ex:Int}{k d:FI}{fl:Nat}(hk:k.length<=250)(hd:d.length<=40)(hex:ex<=100)
  (h:M.dO z.hot z.warm ⟨v,[k],fl,ex,0,0,d,false,false,[]⟩=(.k kd,N)) (ka:FL) (kc:Nat) (da:FL) (dc:Nat):
  aG FM 11 [Dk z.s, .agg (fI ⟨v,[k],fl,ex,0,0,d,false,false,[]⟩ ka kc da dc br).toArray] (λh=>gF h ka [a8 k]/\gF h da (aj d)) [SW z M]
   (λv H=>∃ea ec l,v= .agg #[Dm Dl kd, .slice ea (List.length l) ec,Dm Dj 0,a8 [], .slice none 0 0]/\H= [own ea ec 56 9 (jH l),jG l,SW z N]):=by
 obtain⟨s,s1,w⟩:=S;have h1:=w.r.st;have h2:=w.r.tn;have h3:=w.r.aQ;have D:=abi wN z (by omega) (by omega) M ⟨v,[k],fl,ex,0,0,d,false,false,[]⟩ ka kc da dc br rfl (by show 1<_;decide) (λq hq=>by
  have hq:q∈ [k]:=hq;rw[List.mem_singleton]at hq;rw[hq];omega) (by dsimp only;omega) (by dsimp only;omega) (by dsimp only;decide) w.h (by show _+1<_;omega) w.p (by rw[w.cf];show(128:Int)<=_;decide) (by omega) (by show _+1<_;omega)
 rw[h]at D;refine D.out ?_;rintro u H' ⟨ea,ec,l,_,rfl,rfl⟩;exact⟨_,⟨ea,ec,l,rfl,rfl⟩,λ_ s=>s⟩
theorem Da:BH FM 52 0=some (0,3):=by kernel_rfl
theorem Zp:BH FM 62 0=some (0,3):=by kernel_rfl
abbrev KY (b:Nat)(bm ja:Int)(die:Bool)(p:pD):aa:=ag b 69 [Dm Dl bm,Dm Dl ja, .bool die,Dm Dl p.b,Dm Dl p.l,Dm Dl p.c,Dm Dl p.m]
theorem DT{C:Cs}(h:C.ae= [64,128])(f:Nat->Nat):ofM C 0 f=f 0/\ofM C 1 f=f 1:=by
 unfold ofM;rw[h];exact⟨rfl,rfl⟩
theorem ZY{q:Prop}[Decidable q](h:q):(!decide q)=false:=by simp[h]
theorem KH (b:Bool):BI b<=100:=by cases b<;>decide
theorem Qt (i:Nat):gh .rem .i64 (i:Int) 64=some ((i % 64:Nat):Int):=by
 rw[aax (by decide)]
 first|rfl|(congr 1;exact(Int.ofNat_tmod i 64).symm)
set_option maxHeartbeats 4000000 in
theorem ak2 (bm ja:Int)(die:Bool)(p:pD):aG FM 4 [.agg #[Dm Dl bm,Dm Dl ja, .bool die,Dm Dl p.b,Dm Dl p.l,Dm Dl p.c,Dm Dl p.m]] uT [] (λv H=>v= .bool true/\H= []):=by
 have g1:=yB (n:=bm) (lo:=2) (hi:=9) (by decide);have g2:=yB (n:=ja) (lo:=0) (hi:=7) (by decide);have w1:=JV bm 2 9 (by decide) (by decide) (by decide);have w2:=JV ja 0 7 (by decide) (by decide) (by decide);generalize vH bm 2 9=n0 at*;generalize vH ja 0 7=k0 at*;obtain⟨n,rfl⟩:∃n:Nat,n0=n:=⟨n0.toNat,by omega⟩;obtain⟨kept,rfl⟩:∃k:Nat,k0=k:=⟨k0.toNat,by omega⟩;have n2:2<=n:=by omega
 have n9:n<=9:=by omega
 have k7:kept<=7:=by omega
 have w3:=Yo p;have w4:=ER (cT n) (jk p);have hz:=afB n2 n9 p;unfold zR at w3 w4;rw[show mT (cT n)= [Dm Dl 4096,Dm Dl n,Dm Dl 200,Dm Dl 64,Dm Dl 128,Dm Dl 30,Dm Dl 30]from rfl]at w4;refine af func4 rfl ntmps4 rfl ?_;intro F _;refine aw ?_;refine Lp (oB λb1=> ?_);refine bn ?_;refine zl Aa (w1) .nil Di ?_;refine bn ?_;refine zl Aa (w2) .nil Di ?_;refine bn ?_;refine av ?_;refine eK (ι:=Unit) [22,23,5] (λu=>True) (λu=> [(5,Dm Dl (BI die))]) (λu=> [KY b1 bm ja die p]) ?_ ?_
 ·cases die
  ·refine gK ?_
   refine bn ?_;refine Me (()) (trivial)
  refine gK ?_;refine bs ?_;refine aD ?_;refine Me (()) (trivial)
 rintro u hI;refine bq ?_;refine zl Aa (w3) .nil Di ?_;refine Lp (oA Qf λb2=> ?_);refine bd ?_;refine av ?_;refine eK (ι:=Unit) [27,28,29,30] (λu=>True) (λu=> []) (λu=> [KY b1 bm ja die p,ag b2 23 [Dm Dl (jk p).b,Dm Dl (jk p).l,Dm Dl (jk p).c,Dm Dl (jk p).m]]) ?_ ?_
 ·unfold jk
  by_cases hm:(DR p).m=0
  ·rw[if_pos hm]
   refine bn ?_;refine fe ?_ (e:=by exact decide_eq_true hm);refine bq ?_;refine aD ?_;refine Me (()) (trivial)
  rw[if_neg hm];refine bn ?_;refine cN ?_ (e:=by exact decide_eq_false hm);refine aw ?_;refine Me (()) (trivial)
 rintro u hI;refine bc ?_;refine Lp (oC Aa rfl rfl (w4) .nil Di ?_);rintro v H' hr;refine bR ?_;obtain⟨-,z,z1,z2,z3,z4,rfl,rfl⟩:=hr.resolve_left λh=>h.1 hz;obtain⟨N0,d0,P0⟩:=Mz (b:=die) n2 n9 p z.hot z.warm;have S0:=Lm.start (n:=n) p;have c0:=BO z z3 z4 S0 (by decide) (by decide) (by decide) (by decide) d0;have S1:=S0.dO (ED (b:=die) n2 n9 p).i d0;have pm:=(CO p).2;generalize dU (cT n) (jk p) ⟨1,0,0⟩=M0 at*;refine cV ?_;refine zl Aa (Tk) .nil Di ?_;refine bd ?_;refine zf 40 ?_ (e:=by rfl);refine bc ?_;refine zf 44 ?_ (e:=by rfl);refine cV ?_;refine Lp (oM (40) (40) iJ λb3=> ?_);refine bd ?_;refine Hh (H':= [SW z M0,ag b3 5 (aj (aae 40 0)),KY b1 bm ja die p]) ?_;refine bd ?_;refine Lp (oT xY λb4=> ?_);refine bd ?_;refine aA (t:=52) (v':=(.agg (fI ⟨5,[[98]],0,0,0,0,aae 40 0,false,false,[]⟩ (some ⟨b4,0,none⟩) 1 (some ⟨b3,0,none⟩) 40 br).toArray)) rfl (by(first|rfl|(simp only[Value.cells,cL,ags,agt];first|rfl|done))) ?_;refine Lp (oC Aa rfl rfl (c0 (some ⟨b4,0,none⟩) 1 (some ⟨b3,0,none⟩) 40) (.cons (.there .here) .nil) (λ_ le ak=>⟨jN (ak.nth 0 rfl),jN (ak.nth 1 rfl)⟩) ?_);rintro v H' ⟨ea1,ec1,l1,rfl,rfl⟩;refine bR ?_;refine aw ?_;refine av ?_;refine Hh (H':= [SW z N0,ag b3 5 (aj (aae 40 0)),KY b1 bm ja die p]) ?_;refine bc ?_;refine Lo (ι:=Nat×Mo) (FN [2,1,10,1,54,24]) (λs=>s.1<=64*(n-1)/\PhB n die (jk p) s.1 s.2/\Lm n s.2 (s.1+1)) (λs=> [(10,Dm Dl s.1)]) (λs=> [SW z s.2,ag b3 5 (aj (aae 40 0)),KY b1 bm ja die p]) (λs=>64*(n-1)-s.1) ((0,N0)) ⟨abL _,P0,S1⟩ ?_;rintro⟨i,M⟩ hI
 try dsimp only at hI⊢
 obtain⟨hil,P,S⟩:=hI;by_cases cJ:i<64*(n-1)
 ·obtain⟨N,d1,P1,y1,-,-⟩:=P.step n2 n9 cJ z.hot z.warm
  have dl:=KH die;have nl:=(ot (c:=97) (by decide) (show i<1000 by omega)).2.2;have c1:=BO z z3 z4 S (by omega) (by omega) (by decide) (by omega) d1;have S2:=S.dO P.t.i d1;have nm:=w9 [97] (by decide) i (by omega);have mf:=LN z N;generalize N.v.mt=mt at*;obtain⟨dr,re,bu,li,lo,cr,mvd⟩:=mt;dsimp only at y1;subst y1;unfold mtC at mf;refine cV ?_;refine fe ?_;refine bK ?_;refine zl Aa (nm) .nil Di ?_;refine Lp (oT xY λb5=> ?_);refine bc ?_;refine aA (t:=66) (v':=(Dm Dj i)) rfl (by(first|rfl|exact congrArg (Value.int .u64) (wrap_u64 (by omega)))) ?_;refine aA (t:=68) (v':=(.agg (fI ⟨5,[dR [97] i],i,(BI die:Int),0,0,[],false,false,[]⟩ (some ⟨b5,0,none⟩) 1 none 0 br).toArray)) rfl (by(first|rfl|(simp only[Value.cells,cL,ags,agt];first|rfl|done))) ?_;refine Lp (oC Aa rfl rfl (c1 (some ⟨b5,0,none⟩) 1 none 0) (.cons (.there .here) .nil) (λ_ le ak=>⟨jN (ak.nth 0 rfl),gF.nil⟩) ?_);rintro v H' ⟨ea1,ec1,l1,rfl,rfl⟩;refine bR ?_;refine Li (Fgs Da bj) ?_;refine bd ?_;refine zf 72 ?_ (e:=by rfl);refine aw ?_;refine zl Aa (mf) (.cons (.t2 .here) .nil) Di ?_;refine Li (Fgs Zp bj) ?_;refine bP ?_;refine aD ?_;refine Hh (H':= [SW z N,ag b3 5 (aj (aae 40 0)),KY b1 bm ja die p]) ?_;refine Ro ((i+1,N)) (⟨by omega,P1,S2⟩) ((by omega))
 obtain rfl:i=64*(n-1):=by omega
 have PC:=P.done kept;have q0:=qH z M 0;have q1:=qH z M 1;rw[(DT P.t.z _).1,PC.p0]at q0;rw[(DT P.t.z _).2,PC.r1.2]at q1;refine cV ?_;refine cN ?_;refine cV ?_;refine zl Aa (q0) (.cons .here .nil) Di ?_;refine bc ?_;refine zf 83 ?_ (e:=by exact ZY (by omega));refine aw ?_;refine zl Aa (q1) (.cons .here .nil) Di ?_;refine bP ?_;refine Lo (ι:=Nat×Mo) (FN [2,1,11,1,88,21]) (λs=>s.1<=64*(n-1)/\Wv n die (jk p) kept s.1 s.2/\Lm n s.2 (600+s.1)) (λs=> [(11,Dm Dl s.1)]) (λs=> [SW z s.2,ag b3 5 (aj (aae 40 0)),KY b1 bm ja die p]) (λs=>64*(n-1)-s.1) ((0,M)) ⟨abL _,PC,S.le (by dsimp only;omega)⟩ ?_;rintro⟨i,M⟩ hI
 clear PC P S hil cJ q0 q1
 try dsimp only at hI⊢
 obtain⟨hil,P,S⟩:=hI;by_cases cJ:i<64*(n-1)
 ·refine av ?_
  refine bK ?_;refine fe ?_;refine bs ?_;refine Li (Im (hz:=Qt i)) ?_;by_cases hki:kept<=i % 64
  ·obtain⟨N,d1,P1⟩:=P.step cJ n9 hki z.hot z.warm
   have nl:=(ot (c:=97) (by decide) (show i<1000 by omega)).2.2;have c1:=BO z z3 z4 S (by omega) (by omega) (by decide) (by decide) d1;have S2:=S.dO P.t.i d1;have nm:=w9 [97] (by decide) i (by omega);refine bq ?_;refine zt 99 ?_;refine bd ?_;refine zl Aa (nm) .nil Di ?_;refine Lp (oT xY λb6=> ?_);refine aw ?_;refine aA (t:=104) (v':=(.agg (fI ⟨11,[dR [97] i],0,0,0,0,[],false,false,[]⟩ (some ⟨b6,0,none⟩) 1 none 0 br).toArray)) rfl (by(first|rfl|(simp only[Value.cells,cL,ags,agt];first|rfl|done))) ?_;refine Lp (oC Aa rfl rfl (c1 (some ⟨b6,0,none⟩) 1 none 0) (.cons (.there .here) .nil) (λ_ le ak=>⟨jN (ak.nth 0 rfl),gF.nil⟩) ?_);rintro v H' ⟨ea1,ec1,l1,rfl,rfl⟩;refine bR ?_;refine Li (Fgs Da bj) ?_;refine bP ?_;refine aD ?_;refine Hh (H':= [SW z N,ag b3 5 (aj (aae 40 0)),KY b1 bm ja die p]) ?_;refine Ro ((i+1,N)) (⟨by omega,P1,S2⟩) ((by omega))
  refine Li Mv ?_;refine bd ?_;refine zf 99 ?_;refine rM ?_;refine aD ?_;refine Ro ((i+1,M)) ((by exact⟨cJ,P.skip (Nat.lt_of_not_le hki),S.le (Nat.le_succ _)⟩)) ((by dsimp only;omega))
 obtain rfl:i=64*(n-1):=by omega
 have PD:=P.done n2 k7;refine cV ?_;refine cN ?_;refine bB ?_;refine Lo (ι:=Nat×Mo) (FN [2,1,12,1,109,16]) (λs=>s.1<=60*n+40/\W2 n die (jk p) kept s.1 s.2/\Lm n s.2 (1200+s.1)) (λs=> [(12,Dm Dl s.1)]) (λs=> [SW z s.2,ag b3 5 (aj (aae 40 0)),KY b1 bm ja die p]) (λs=>60*n+40-s.1) ((0,M)) ⟨abL _,PD,S.le (by dsimp only;omega)⟩ ?_;rintro⟨i,M⟩ hI
 clear PD P S hil cJ
 try dsimp only at hI⊢
 obtain⟨hil,P,S⟩:=hI;by_cases cJ:i<60*n+40
 ·refine pQ λwa wc B O=> ?_
  have Rw:LJ M:=O.row
  clear O
  obtain⟨N,d1,P1⟩:=P.step Rw n2 n9 k7 (show i<1000 by omega) pm z.hot z.warm;have nl:=(ot (c:=98) (by decide) (show i<1000 by omega)).2.2;have c1:=BO z z3 z4 S (by omega) (by omega) (by decide) (by decide) d1;have S2:=S.dO P.t.i d1;have nm:=w9 [98] (by decide) i (by omega);refine cV ?_;refine fe ?_;refine bK ?_;refine zl Aa (nm) .nil Di ?_;refine Lp (oT xY λb7=> ?_);refine bd ?_;refine aA (t:=121) (v':=(.agg (fI ⟨5,[dR [98] i],0,0,0,0,aae 40 0,false,false,[]⟩ (some ⟨b7,0,none⟩) 1 (some ⟨b3,0,none⟩) 40 br).toArray)) rfl (by(first|rfl|(simp only[Value.cells,cL,ags,agt];first|rfl|done))) ?_;refine Lp (oC Aa rfl rfl (c1 (some ⟨b7,0,none⟩) 1 (some ⟨b3,0,none⟩) 40) (.cons (.there .here) .nil) (λ_ le ak=>⟨jN (ak.nth 0 rfl),jN (ak.nth 1 rfl)⟩) ?_);rintro v H' ⟨ea1,ec1,l1,rfl,rfl⟩;refine bR ?_;refine Li (Fgs Da bj) ?_;refine bB ?_;refine aD ?_;refine Hh (H':= [SW z N,ag b3 5 (aj (aae 40 0)),KY b1 bm ja die p]) ?_;refine Ro ((i+1,N)) (⟨by omega,P1,S2⟩) ((by omega))
 obtain rfl:i=60*n+40:=by omega
 obtain⟨e1,e2,e3,e4⟩:=P.end_ n2 n9;have e0:=P.t0;have DG:=C6 n2 n9 k7;have q0:=qH z M 0;have q1:=qH z M 1;have r0:=kZ z M 0;have r1:=kZ z M 1;rw[(DT P.t.z _).1,e1]at q0;rw[(DT P.t.z _).2,e2]at q1;rw[(DT P.t.z _).1,e0]at r0;rw[(DT P.t.z _).2,e3]at r1;refine cV ?_;refine cN ?_;refine cV ?_;refine zl Aa (q0) (.cons .here .nil) Di ?_;refine bd ?_;refine zf 128 ?_ (e:=by rfl);refine aw ?_;refine zl Aa (q1) (.cons .here .nil) Di ?_;refine bn ?_;refine zf 135 ?_ (e:=by exact ZY (by omega));refine aw ?_;refine zl Aa (r1) (.cons .here .nil) Di ?_;refine bs ?_;refine zf 143 ?_ (e:=by exact ZY (by omega));refine aw ?_;refine zl Aa (r0) (.cons .here .nil) Di ?_;have ekn:(kept:Int)*((n:Int)-1)=((kept*(n-1):Nat):Int):=by rw[Int.natCast_mul];congr 1;omega
 refine bc ?_;refine aA (t:=149) (v':=(Dm Dl (kept*(n-1):Nat))) rfl (by(refine congrArg (Value.int .i64) ?_;first|exact ekn|(rw[ekn];done)|(rw[ekn];exact wrap_i64 (by omega)))) ?_;refine bq ?_;refine cN ?_ (e:=by exact ZY rfl);refine bK ?_;refine Lo (ι:=Nat) (FN [2,1,13,3,152,51]) (λi=>i<=64*(n-1)) (λi=> [(13,Dm Dl i)]) (λi=> [SW z M,ag b3 5 (aj (aae 40 0)),KY b1 bm ja die p]) (λi=>64*(n-1)-i) (0) (by exact abL _) ?_;rintro i hil;by_cases cJ:i<64*(n-1)
 ·have hka:=P.ka i cJ
  have nl:=(ot (c:=97) (by decide) (show i<1000 by omega)).2.2;have nm:=w9 [97] (by decide) i (by omega);have ff:=Fo z M (dR [97] i) (by omega);have ef:=Zt (BI die) (by have:=KH die;omega);rw[show((if BI die=0 then 0 else(1+BI die:Nat)):Int)=(PW die:Int) by cases die<;>rfl]at ef;refine cV ?_;refine fe ?_;refine bK ?_;refine zl Aa (nm) .nil Di ?_;by_cases hki:kept<=i % 64
  ·rw[if_pos hki]at hka
   rw[show M.live (dR [97] i)=none from Option.map_eq_none_iff.1 hka]at ff;refine zl Aa (ff) (.cons .here .nil) Di ?_;refine bq ?_;refine Lp (oA Aj λb8=> ?_);refine Lp (jh pS ?_ (h1:=by simp[Xn,Value.oneCell',a8]));refine bd ?_;refine av ?_;refine iU 37 mix (.cons .here .nil) λF1 jD bV aI=> ?_;obtain⟨q1,_⟩:=bV;refine bd ?_;refine Ti (Im (hz:=Qt i)) ?_;refine bd ?_;refine aA (t:=170) (v':=(.bool false)) rfl (by exact congrArg Value.bool (Ab)) ?_;refine Ti (Bq u_4) ?_;refine aw ?_;refine zf 172 ?_ (e:=by rfl);refine bd ?_;refine zf 174 ?_ (e:=by rfl);refine cK ?_;refine cV ?_;refine gI aI ?_;refine cA ?_;refine aD ?_;refine Hh (H':= [SW z M,ag b3 5 (aj (aae 40 0)),KY b1 bm ja die p]) ?_;refine Ro (i+1) (cJ) ((by omega))
  rw[if_neg hki]at hka;obtain⟨q,ux,dD⟩:=Option.map_eq_some_iff.1 hka;rw[ux]at ff;have w1:(M.it q).fl=i:=congrArg (λx=>I3.fl x.1) dD;have w2:(M.it q).exp=PW die:=congrArg (λx=>I3.exp x.1) dD;have w3:(M.it q).tok=i+2:=congrArg (λx=>I3.tok x.1) dD;have w4:(M.it q).val= []:=congrArg (λx=>I3.val x.1) dD;refine Lp (oC Aa rfl rfl (ff) (.cons .here .nil) Di ?_);rintro v H' ⟨vb,rfl,rfl⟩;refine bR ?_;unfold xL;rw[w1,w2,w3,w4];refine bq ?_;refine Lp (oA Aj λb9=> ?_);refine Lp (jh pS ?_ (h1:=by simp[Value.oneCell',a8]));refine bd ?_;refine av ?_;refine iU 37 mix (.cons .here .nil) λF2 zH eL dw=> ?_;obtain⟨q1,_⟩:=eL;refine bd ?_;refine Ti (Im (hz:=Qt i)) ?_;refine bd ?_;refine aA (t:=170) (v':=(.bool true)) rfl (by exact congrArg Value.bool (Ac)) ?_;refine Ti (Bq u_4) ?_;refine aw ?_;refine zf 172 ?_ (e:=by rfl);refine bd ?_;refine zt 174 ?_ (e:=by rfl);refine bq ?_;refine Ti (Cv GC Lv) ?_;refine bd ?_;refine zf 180 ?_ (e:=by exact ZY rfl);refine bc ?_;refine Ti (Cv GC Lv) ?_;refine bq ?_;refine zf 188 ?_ (e:=by exact ZY (by omega));refine bs ?_;refine zf 194 ?_ (e:=by rfl);refine bq ?_;refine Tp (oZ (Aa (n:=27)) (ef) .nil Di ?_);refine bc ?_;refine gI dw ?_;refine aw ?_;refine cN ?_ (e:=by exact ZY rfl);refine bK ?_;refine aD ?_;refine Hh (H':= [SW z M,ag b3 5 (aj (aae 40 0)),KY b1 bm ja die p]) ?_;refine Ro (i+1) (cJ) ((by omega))
 refine av ?_;refine bK ?_;refine cN ?_;obtain⟨k1,k2,k3,k4⟩:=P.tick n2 n9 k7;have rR:M.v.aQ<18446744073709551616:=by
  obtain⟨s,s1,w⟩:=S;exact Nat.lt_of_le_of_lt w.r.aQ (by omega)
 have tk:=XG wN z M 100 rR;rw[k1]at tk;have r0:=kZ z (M.tick 100) 0;have r1:=kZ z (M.tick 100) 1;rw[(DT k4 _).1,k2]at r0;rw[(DT k4 _).2,k3]at r1;refine cV ?_;refine zl Aa (tk) (.cons .here .nil) Di ?_;refine bd ?_;refine zf 206 ?_ (e:=by rfl);cases die
 ·refine Li (Fa yN) ?_
  refine bd ?_;refine zf 209 ?_ (e:=by rfl);refine bB ?_;refine zt 219 ?_ (e:=by rfl);refine aw ?_;refine zl Aa (r0) (.cons .here .nil) Di ?_;refine bn ?_;refine aA (t:=225) (v':=(Dm Dl (kept*(n-1):Nat))) rfl (by(refine congrArg (Value.int .i64) ?_;first|exact ekn|(rw[ekn];done)|(rw[ekn];exact wrap_i64 (by omega)))) ?_;refine bq ?_;refine cN ?_ (e:=by exact ZY (by rw[if_neg Bool.false_ne_true];exact ekn.symm));refine bc ?_;refine zl Aa (r1) (.cons .here .nil) Di ?_;refine bK ?_;refine Rt [] results4 ?_;exact⟨congrArg Value.bool (Ac),rfl⟩
 refine Li (Fa yN) ?_;refine bd ?_;refine zt 209 ?_ (e:=by rfl);refine aw ?_;refine zl Aa (r0) (.cons .here .nil) Di ?_;refine bc ?_;refine zf 215 ?_ (e:=by rfl);refine bc ?_;refine zf 219 ?_ (e:=by rfl);refine lx ?_;refine zl Aa (r1) (.cons .here .nil) Di ?_;refine bK ?_;refine Rt [] results4 ?_;exact⟨congrArg Value.bool (Ac),rfl⟩
end Go.Proofs.YtcbcjolpdljbiaaGreat
