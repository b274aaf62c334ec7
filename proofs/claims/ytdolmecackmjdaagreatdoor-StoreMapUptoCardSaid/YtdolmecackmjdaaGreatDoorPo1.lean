/- Part Po1 of the proof. -/
import Derived.Test.YtdolmecackmjdaaGreatDoorPq
set_option maxRecDepth 100000
open Nat renaming le_of_lt → ahO, le_trans → agC
open List renaming flatMap_cons → adb
namespace Go.Proofs.YtdolmecackmjdaaGreatDoor
open Go Go.dL Go.Proofs.YtdolmecackmjdaaGreatDoor.Cs
theorem Roo.amp2{M:Mo}{P:bn}{T:List UInt8→Prop}(S:bb T M P)(F:P.Fits){t:Nat}(R:Roo M t)(ht:t<200)(c:dI)(hT:T (c.keys.headD [])):ib M 1∧ib (M.reset.eQ c).2 1:=by
 have R1:Roo M.reset t:=R.ev (.rf rfl rfl);obtain⟨_,a,_⟩:=S.reset.eQ F c hT;exact⟨R.T0 S.i.k (ahO ht),(R1.one (vA S.reset (R1.T0 S.reset.i.k (ahO ht)) c)).T0 a.i.k ht⟩
structure Aj (k i:Nat):Prop where
 h:k≤i*1048577
theorem Aj.add{k i n:Nat}(h:Aj k i)(hn:n≤1048577):Aj (k+n) (i+1):=⟨by
 have:=h.h;rw[Nat.add_mul];omega⟩
theorem Aj.up{k i:Nat}(h:Aj k i):Aj k (i+1):=h.add (n:=0) (Nat.zero_le _)
theorem Aj.le{k i:Nat}(h:Aj k i)(hi:i<200):k≤209715400:=agC h.h (agC (Nat.mul_le_mul_right _ (ahO hi)) (by decide))
structure qL where
 c:dI
 ka:Option Addr
 kc:Nat
 da:Option Addr
 dc:Nat
 mv:Value
 tick:Int
def B5 (d:qL):List Value:=cy d.c d.ka d.kc d.da d.dc d.mv++ [.int .i64 d.tick]
def qp (l:List qL):List Value:=l.flatMap B5
structure Ct (h:Hp)(d:qL):Prop where
 one:d.mv.oneCell'=true
 keys:dU h d.ka (eR d.c.keys)
 data:dU h d.da (ai d.c.data)
 kn:d.c.keys.length≤1048576
 kl:∀k∈d.c.keys,k.length<281474976710656
 ex:d.c.ex<9223372036854775808
 dn:d.c.data.length<140737488351232
 dl:d.c.dl<18446744073709551616
theorem Dk (d:qL):(B5 d).length=12:=rfl
theorem ID (l:List qL)(i:Nat)(x:qL)(h:l[i]?=some x):((qp l).drop (i*12)).take 12=B5 x:=by
 unfold qp
 induction l generalizing i with
 |nil=>simp at h
 |cons q r ih=>
  have hq:=Dk q;rw[adb];cases i with
  |zero=>
   simp only[List.getElem?_cons_zero,Option.some.injEq]at h;subst h;rw[Nat.zero_mul,List.drop_zero,List.take_append_of_le_length (by omega),List.take_of_length_le (by omega)]
  |succ i=>
   rw[List.getElem?_cons_succ]at h;rw[List.drop_append,List.drop_of_length_le (by omega),List.nil_append,hq,show(i+1)*12-12=i*12 from by omega];exact ih i h
theorem SX (l:List qL)(i:Nat)(x:qL)(h:l[i]?=some x)(o k:Nat)(hk:o+k≤12):((qp l).drop (i*12+o)).take k=((B5 x).drop o).take k:=by
 have e:=congrArg (λq=>(q.drop o).take k) (ID l i x h);simp only[List.drop_take,List.drop_drop,List.take_take,Nat.min_eq_left (show k≤12-o by omega)]at e;exact e
theorem Dj (l:List qL)(i:Nat)(x:qL)(h:l[i]?=some x)(j:Nat)(hj:j<12):(qp l)[i*12+j]?=(B5 x)[j]?:=by
 have e:=congrArg (·[j]?) (ID l i x h);simp only[List.getElem?_take,if_pos hj,List.getElem?_drop]at e;exact e
theorem SV (l:List qL):(qp l).length=l.length*12:=by
 unfold qp
 induction l with
 |nil=>rfl
 |cons q r ih=>rw[adb,List.length_append,ih,Dk,List.length_cons];omega
theorem SG{l:List (I3×Nat)}{h:Hp}(o:∃k,gV l k∧Le k h):∀p∈l,dU h (some ⟨p.2,0,none⟩) (ai p.1.val):=λp hp=>bD (o5 o hp)
end Go.Proofs.YtdolmecackmjdaaGreatDoor
