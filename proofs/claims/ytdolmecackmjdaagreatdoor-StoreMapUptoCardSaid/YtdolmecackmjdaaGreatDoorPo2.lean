/- Part Po2 of the proof. -/
import Derived.Test.YtdolmecackmjdaaGreatDoorPq1
set_option maxRecDepth 100000
namespace Go.Proofs.YtdolmecackmjdaaGreatDoor
open Go Go.dL Go.Proofs.YtdolmecackmjdaaGreatDoor.Cs
structure I4 (M:Mo)(P:bn)(t s:Nat):Prop where
 a:bb (λ_=>True) M P
 ra:Roo M t
 na:MH M s
 f:P.Fits
 pa:uL M.v.p
 ca:M.v.c=cA
theorem I4.start (p:ua):I4 (fk cA (ym p) ⟨1,0,0⟩) (rF cA) 0 0:=
 have D:=Duo.start p p
 ⟨sf wP _ _,D.ra,D.na,Bh (P:=rF cA) (z:=512) (show 512∈cV cA by decide+kernel) (by decide),D.pa,D.ca⟩
theorem I4.dO{M:Mo}{P:bn}{t s:Nat}(D:I4 M P t s)(ht:t<200)(h w:Nat)(c:dI):
  (M.dO h w c).1.vw=(P.dO lh c).1∧I4 (M.dO h w c).2 (P.dO lh c).2 (t+1) (s+c.keys.length+1):=by
 obtain⟨a1,a2,a3⟩:=QQ D.a D.f D.ra ht h w c trivial;obtain⟨n1,n2,n3⟩:=PJ D.a D.na h w c;exact⟨a2,a1,a3,n1,vC D.f,n2.symm▸D.pa,n3.trans D.ca⟩
theorem I4.tick{M:Mo}{P:bn}{t s:Nat}(D:I4 M P t s)(n:Int):I4 (M.tick n) (P.tick n) t s:=by
 obtain⟨_,_,_,p1,c1⟩:=xL M n;exact⟨D.a.tick n,D.ra.tick n,D.na.tick n,Jo D.f n,p1.symm▸D.pa,c1.trans D.ca⟩
theorem I4.sz{M:Mo}{P:bn}{t s:Nat}(D:I4 M P t s):P.z= [64,128,256,512]∧P.c=cA:=⟨D.a.pZ.trans D.ra.sz,D.a.cfg.trans D.ca⟩
theorem ku.start:ku ⟨[],1,0,0,0,0⟩ (rF cA):=
 ⟨rfl,Nat.le_refl _,by decide,rfl,rfl,Nat.le_refl _, .inl rfl,λi j t u h=>(by simp at h),λt h=>(by cases h),λt h=>(by cases h),λt h=>(by cases h),λk _=>rfl⟩
theorem XE (x:I3):x.vw.vw=x.vw:=by
 unfold I3.vw;dsimp only
 congr 1
 omega
theorem ku.it{B:gC}{M:Mo}{P:bn}(R:ku B P)(S:bb (λ_=>True) M P){t:Th}(ht:t∈B.l)(hd:¬B.dead t):∃p,M.live t.key=some p∧M.has p∧(M.it p).vw=t.x:=by
 obtain⟨c,h,_⟩:=R.al t ht hd;obtain⟨p,h1,h2⟩:=H5 S h;rw[S.f]at h;obtain⟨q,a,b,d,e⟩:=(mG S.i.p).1 h;refine⟨p,h1, ?_,h2⟩;unfold Mo.live at h1;cases hf:M.find t.key with
 |none=>rw[hf]at h1;cases h1
 |some r=>
  rw[hf]at h1;dsimp only at h1
  split at h1
  ·cases h1
   exact((iR S.i.p).1 hf).1
  cases h1
theorem Wa{M:Mo}{P:bn}{T:List UInt8→Prop}(S:bb T M P){k:List UInt8}(h:P.f k=none):M.live k=none:=by
 rw[S.f]at h;unfold Mo.lp at h;cases hl:M.live k with
 |none=>rfl
 |some p=>rw[hl]at h;cases h
end Go.Proofs.YtdolmecackmjdaaGreatDoor
