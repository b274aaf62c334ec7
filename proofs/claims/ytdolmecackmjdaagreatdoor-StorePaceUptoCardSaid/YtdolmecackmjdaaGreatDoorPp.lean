/- Part Pp of the proof. -/
import Derived.Test.YtdolmecackmjdaaGreatDoorPd
import Derived.Test.YtdolmecackmjdaaGreatDoorPn
import Derived.Test.YtdolmecackmjdaaGreatDoorPo
set_option maxRecDepth 100000
open List renaming set_cons_zero → aew, set_cons_succ → aex
namespace Go.Proofs.YtdolmecackmjdaaGreatDoor
open Go Go.cV Go.Proofs.YtdolmecackmjdaaGreatDoor.Cs
theorem Dy (z:Ly)(J8:z.hot≤100)(JR:z.warm≤100)(M:Mo)(c:dB)(RO:Rdo M c)(hv:5≤c.verb∧c.verb≤10)(hk:c.keys.length≤1)(pO:∀k∈c.keys,k.length≤1)(hd:c.data.length≤1)(hex:c.ex=0)(JV:c.dl=0)(ka:Option Addr)(kc:Nat)(da:Option Addr)(dc:Nat)(mv:Value)(j8:mv.oneCell'=true):
  aF Tryz.prog 11 [.pointer (some ⟨z.s,0,none⟩), .agg (dZ c ka kc da dc mv).toArray] (λh=>eB h ka (fU c.keys)∧eB h da (ak c.data)) [SW z M] (GX z (M.dO z.hot z.warm c)):=by
 have R:=RO.r
 have h1:=R.st
 have h2:=R.tn
 have h3:=R.aO
 exact VB sL z J8 JR M c ka kc da dc mv j8 RO.a RO.b (by omega) (λk hk=>by have:=pO k hk;omega) (by omega) (by omega) (by omega) R.h (by omega) R.p R.lim (by omega) (by omega)
theorem Np:aF Tryz.prog 6 [] (λ_=>True) [] (λv H=>v= .bool true∧H= []):=by
 refine af Tryz.func6 rfl Tryz.ntmps6 rfl ?_
 intro F _
 refine br ?_
 refine Lp (oC T.acU rfl rfl (XN cW) .nil (λ_ _ _=>trivial) ?_)
 rintro v H' hr
 refine bd ?_
 obtain⟨-,z,z1,z2,z3,z4,rfl,rfl⟩:=hr.resolve_left λh=>h.1 Zm
 obtain⟨r1,e1⟩:∃r,(eK cW iJ ⟨1,0,0⟩).dO z.hot z.warm (qU 5 5 0 120)=r:=⟨_,rfl⟩
 obtain⟨r2,e2⟩:∃r,r1.2.dO z.hot z.warm (qU 10 0 1 121)=r:=⟨_,rfl⟩
 obtain⟨r3,e3⟩:∃r,r2.2.dO z.hot z.warm (qU 10 0 1 122)=r:=⟨_,rfl⟩
 obtain⟨⟨⟨y0,y1,y2⟩,k1,k2,k3⟩,P,S3,hP⟩:=BB z.hot z.warm r1 r2 r3 e1 e2 e3
 have d1:=Dy z (by omega) (by omega) _ (qU 5 5 0 120) y0 (by decide) (by decide) (by decide) (by decide) rfl rfl
 have d2:=Dy z (by omega) (by omega) _ (qU 10 0 1 121) y1 (by decide) (by decide) (by decide) (by decide) rfl rfl
 have d3:=Dy z (by omega) (by omega) _ (qU 10 0 1 122) y2 (by decide) (by decide) (by decide) (by decide) rfl rfl
 rw[e1]at d1
 rw[e2]at d2
 rw[e3]at d3
 refine bI ?_
 refine zf 15 ?_ (e:=by rfl)
 refine dg ?_
 refine Lp (oT T.E5 λb1=> ?_)
 refine Lp (oT T.iL λb2=> ?_)
 refine Lp (oMk T.j6 T.oI ?_)
 refine aA ?_
 refine ay (t:=23) (v':=(.agg (dZ (qU 5 5 0 120) (some ⟨b1,0,none⟩) 1 (some ⟨b2,0,none⟩) 1 bc).toArray)) rfl (by(first|rfl|(simp only[Value.cells,cR,aew,aex];first|rfl|done))) ?_
 refine Lp (oC T.Ao rfl rfl (d1 (some ⟨b1,0,none⟩) 1 (some ⟨b2,0,none⟩) 1 bc rfl) (.cons (.there (.there .here)) .nil) (λ_ le aq=>⟨rj (aq.nth 1 rfl),rj (aq.nth 0 rfl)⟩) ?_)
 rintro v H' ⟨QJ,JX,l1,Uv,rfl,rfl⟩
 refine bd ?_
 unfold sU
 rw[k1]
 refine Lp (oA T.kj λb3=> ?_)
 refine Lp (gM T.cU ?_ (h1:=by simp[dY,Value.oneCell',aT]))
 refine aA ?_
 refine Hh (H':= [SW z r1.2,ag b3 41 (dY 1 (.slice QJ l1.length JX) r1.1.num r1.1.s7)]) ?_
 refine bf ?_
 refine Lp (oT T.E5 λb4=> ?_)
 refine Lp (oT T.iL λb5=> ?_)
 refine Lp (oMk T.j6 T.oI ?_)
 refine aA ?_
 refine ay (t:=29) (v':=(.agg (dZ (qU 10 0 1 121) (some ⟨b4,0,none⟩) 1 (some ⟨b5,0,none⟩) 1 bc).toArray)) rfl (by(first|rfl|(simp only[Value.cells,cR,aew,aex];first|rfl|done))) ?_
 refine Lp (oC T.Ao rfl rfl (d2 (some ⟨b4,0,none⟩) 1 (some ⟨b5,0,none⟩) 1 bc rfl) (.cons (.there (.there .here)) .nil) (λ_ le aq=>⟨rj (aq.nth 1 rfl),rj (aq.nth 0 rfl)⟩) ?_)
 rintro v H' ⟨V5,Q1,l2,zO,rfl,rfl⟩
 refine bd ?_
 unfold sU
 rw[k2]
 refine Lp (oA T.kj λb6=> ?_)
 refine Lp (gM T.cU ?_ (h1:=by simp[dY,Value.oneCell',aT]))
 refine aA ?_
 refine Hh (H':= [SW z r2.2,ag b3 41 (dY 1 (.slice QJ l1.length JX) r1.1.num r1.1.s7),ag b6 41 (dY 1 (.slice V5 l2.length Q1) r2.1.num r2.1.s7)]) ?_
 refine bf ?_
 refine Lp (oT T.E5 λb7=> ?_)
 refine Lp (oT T.iL λb8=> ?_)
 refine Lp (oMk T.j6 T.oI ?_)
 refine aA ?_
 refine ay (t:=35) (v':=(.agg (dZ (qU 10 0 1 122) (some ⟨b7,0,none⟩) 1 (some ⟨b8,0,none⟩) 1 bc).toArray)) rfl (by(first|rfl|(simp only[Value.cells,cR,aew,aex];first|rfl|done))) ?_
 refine Lp (oC T.Ao rfl rfl (d3 (some ⟨b7,0,none⟩) 1 (some ⟨b8,0,none⟩) 1 bc rfl) (.cons (.there (.there .here)) .nil) (λ_ le aq=>⟨rj (aq.nth 1 rfl),rj (aq.nth 0 rfl)⟩) ?_)
 rintro v H' ⟨ea3,ec3,l3,hl3,rfl,rfl⟩
 refine bd ?_
 unfold sU
 rw[k3]
 refine Lp (oA T.kj λb9=> ?_)
 refine Lp (gM T.cU ?_ (h1:=by simp[dY,Value.oneCell',aT]))
 refine aA ?_
 refine Hh (H':= [SW z r3.2,ag b3 41 (dY 1 (.slice QJ l1.length JX) r1.1.num r1.1.s7),ag b6 41 (dY 1 (.slice V5 l2.length Q1) r2.1.num r2.1.s7),ag b9 41 (dY 3 (.slice ea3 l3.length ec3) r3.1.num r3.1.s7)]) ?_
 obtain⟨p,lL,hvw⟩:=S9 S3 hP
 refine bf ?_
 refine Lp (oC T.An rfl rfl (vC z r3.2 [97] (by decide)) (.cons .here .nil) (λ_ _ _=>trivial) ?_)
 rintro v H' hf
 refine bd ?_
 rw[lL]at hf
 obtain⟨vb,rfl,rfl⟩:=hf
 refine Hh (H':= [SW z r3.2,own (some ⟨vb,0,none⟩) (r3.2.it p).val.length 5 1 (ak (r3.2.it p).val),ag b3 41 (dY 1 (.slice QJ l1.length JX) r1.1.num r1.1.s7),ag b6 41 (dY 1 (.slice V5 l2.length Q1) r2.1.num r2.1.s7),ag b9 41 (dY 3 (.slice ea3 l3.length ec3) r3.1.num r3.1.s7)]) ?_
 refine oz λwa wc B O=> ?_
 have hn:r3.2.n=1:=show(r3.2.aD wa wc).n=1 from Tc O (S3.aD wa wc) (by rw[hP];simp)
 have GP:(r3.2.it p).val= [121]:=congrArg I3.val hvw
 have htok:(r3.2.it p).tok=2:=congrArg I3.tok hvw
 unfold lT
 rw[GP,htok]
 unfold dY
 refine bq ?_
 refine Lp (oA T.r8 λb10=> ?_)
 refine Lp (gM T.lh ?_ (h1:=by simp[Value.oneCell',aT]))
 refine bL ?_
 refine zt 45 ?_ (e:=by rfl)
 refine br ?_
 refine zt 50 ?_ (e:=by rfl)
 refine br ?_
 refine zt 55 ?_ (e:=by rfl)
 refine bq ?_
 refine zt 58 ?_ (e:=by rfl)
 refine bf ?_
 refine Lp (oTs T.gQ T.oI T.rY ?_)
 refine Li Sq ?_
 refine bf ?_
 refine zt 64 ?_ (e:=by rfl)
 refine br ?_
 refine zt 69 ?_ (e:=by rfl)
 refine aA ?_
 refine zl T.acT (RE z r3.2) (.cons (.there .here) .nil) (λ_ _ _=>trivial) ?_
 rw[hn]
 refine br ?_
 refine Rt [] Tryz.results6 ?_
 exact⟨rfl,rfl⟩
end Go.Proofs.YtdolmecackmjdaaGreatDoor
