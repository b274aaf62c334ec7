/- Part Po1 of the proof. -/
import Derived.Test.YtdolmecackmjdaaGreatDoorPq
set_option maxRecDepth 100000
open Nat renaming le_of_lt → ae0, le_trans → aei
open List renaming flatMap_cons → adA
namespace Go.Proofs.YtdolmecackmjdaaGreatDoor
open Go Go.cV Go.Proofs.YtdolmecackmjdaaGreatDoor.Cs
theorem Roo.amp2{M:Mo}{P:bz}{T:List UInt8→Prop}(S:aQ T M P)(F:P.Fits){t:Nat}(R:Roo M t)(ht:t<200)(c:dB)(hT:T (c.keys.headD [])):gB M 1∧gB (M.reset.fb c).2 1:=by
 have R1:Roo M.reset t:=R.ev (.rf rfl rfl)
 obtain⟨_,a,_⟩:=S.reset.fb F c hT
 exact⟨R.QL S.i.k (ae0 ht),(R1.one (tO S.reset (R1.QL S.reset.i.k (ae0 ht)) c)).QL a.i.k ht⟩
structure yj (k i:Nat):Prop where
 h:k≤i*1048577
theorem yj.add{k i n:Nat}(h:yj k i)(hn:n≤1048577):yj (k+n) (i+1):=⟨by
 have:=h.h
 rw[Nat.add_mul]
 omega⟩
theorem yj.up{k i:Nat}(h:yj k i):yj k (i+1):=h.add (n:=0) (Nat.zero_le _)
theorem yj.le{k i:Nat}(h:yj k i)(hi:i<200):k≤209715400:=aei h.h (aei (Nat.mul_le_mul_right _ (ae0 hi)) (by decide))
structure oY where
 c:dB
 ka:Option Addr
 kc:Nat
 da:Option Addr
 dc:Nat
 mv:Value
 tick:Int
def z8 (d:oY):List Value:=dZ d.c d.ka d.kc d.da d.dc d.mv++ [.int .i64 d.tick]
def oE (l:List oY):List Value:=l.flatMap z8
structure Ar (h:Hp)(d:oY):Prop where
 one:d.mv.oneCell'=true
 keys:eB h d.ka (fU d.c.keys)
 data:eB h d.da (ak d.c.data)
 kn:d.c.keys.length≤1048576
 kl:∀k∈d.c.keys,k.length<281474976710656
 ex:d.c.ex<9223372036854775808
 dn:d.c.data.length<140737488351232
 dl:d.c.dl<18446744073709551616
theorem Bn (d:oY):(z8 d).length=12:=rfl
theorem Gp (l:List oY)(i:Nat)(x:oY)(h:l[i]?=some x):((oE l).drop (i*12)).take 12=z8 x:=by
 unfold oE
 induction l generalizing i with
 |nil=>simp at h
 |cons q r ih=>
  have hq:=Bn q
  rw[adA]
  cases i with
  |zero=>
   simp only[List.getElem?_cons_zero,Option.some.injEq]at h
   subst h
   rw[Nat.zero_mul,List.drop_zero,List.take_append_of_le_length (by omega),List.take_of_length_le (by omega)]
  |succ i=>
   rw[List.getElem?_cons_succ]at h
   rw[List.drop_append,List.drop_of_length_le (by omega),List.nil_append,hq,show(i+1)*12-12=i*12 from by omega]
   exact ih i h
theorem PW (l:List oY)(i:Nat)(x:oY)(h:l[i]?=some x)(o k:Nat)(hk:o+k≤12):((oE l).drop (i*12+o)).take k=((z8 x).drop o).take k:=by
 have e:=congrArg (λq=>(q.drop o).take k) (Gp l i x h)
 simp only[List.drop_take,List.drop_drop,List.take_take,Nat.min_eq_left (show k≤12-o by omega)]at e
 exact e
theorem Bm (l:List oY)(i:Nat)(x:oY)(h:l[i]?=some x)(j:Nat)(hj:j<12):(oE l)[i*12+j]?=(z8 x)[j]?:=by
 have e:=congrArg (·[j]?) (Gp l i x h)
 simp only[List.getElem?_take,if_pos hj,List.getElem?_drop]at e
 exact e
theorem PV (l:List oY):(oE l).length=l.length*12:=by
 unfold oE
 induction l with
 |nil=>rfl
 |cons q r ih=>rw[adA,List.length_append,ih,Bn,List.length_cons];omega
theorem Bh{l:List (I3×Nat)}{h:Hp}(o:∃k,gp l k∧Le k h):∀p∈l,eB h (some ⟨p.2,0,none⟩) (ak p.1.val):=λp hp=>bB (qt o hp)
end Go.Proofs.YtdolmecackmjdaaGreatDoor
