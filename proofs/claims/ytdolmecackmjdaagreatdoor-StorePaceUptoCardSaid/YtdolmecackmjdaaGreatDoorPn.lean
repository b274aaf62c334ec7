/- Part Pn of the proof. -/
import Derived.Test.YtdolmecackmjdaaGreatDoorPi
import Derived.Shelf.SlSortCmp.NoneTotal
import Derived.Test.YtdolmecackmjdaaGreatDoorProg
set_option maxRecDepth 100000
open Array renaming getElem?_eq_getElem → adM, ext_getElem? → ad3, getElem?_append_left → aeJ, getElem?_eq_some_iff → adu
open List renaming size_toArray → afn, getElem?_toArray → ae3, getElem?_eq_getElem → aac, getElem?_append_left → adN, getElem?_append_right → aeK, length_append → aal, eq_nil_of_length_eq_zero → aaw
open Nat renaming zero_add → aas
open Go.Proofs.Tryz
namespace Go.Proofs
open Go.Shelf
def Tryz.Ot:Go.Shelf.Ren:=⟨fun|6=>142|15=>206|14=>205|28=>250|29=>251|20=>242|21=>243|22=>244|23=>245|24=>246|25=>247|26=>248|27=>249|46=>258|47=>259|48=>260|49=>261|50=>262|57=>263|n=>n,fun|22=>195|24=>243|25=>245|3=>3|39=>190|0=>0|53=>163|55=>38|4=>4|46=>319|45=>318|50=>265|5=>5|9=>9|66=>331|70=>180|76=>335|77=>123|n=>n,fun|n=>n⟩
theorem Tryz.aa0:Go.Proofs.SlLaysF0.n6 Tryz.prog Tryz.Ot:={
 mixed:=by kernel_rfl
 f6:=⟨Tryz.f142.name,by decide,func142.trans (congrArg some (by kernel_rfl))⟩
 f14:=⟨Tryz.f205.name,by decide,func205.trans (congrArg some (by kernel_rfl))⟩
 f15:=func206.trans (congrArg some (by kernel_rfl))
 f20:=⟨Tryz.f242.name,by decide,func242.trans (congrArg some (by kernel_rfl))⟩
 f21:=⟨Tryz.f243.name,by decide,func243.trans (congrArg some (by kernel_rfl))⟩
 f22:=⟨Tryz.f244.name,by decide,func244.trans (congrArg some (by kernel_rfl))⟩
 f23:=⟨Tryz.f245.name,by decide,func245.trans (congrArg some (by kernel_rfl))⟩
 f24:=⟨Tryz.f246.name,by decide,func246.trans (congrArg some (by kernel_rfl))⟩
 f25:=⟨Tryz.f247.name,by decide,func247.trans (congrArg some (by kernel_rfl))⟩
 f26:=⟨Tryz.f248.name,by decide,func248.trans (congrArg some (by kernel_rfl))⟩
 f27:=⟨Tryz.f249.name,by decide,func249.trans (congrArg some (by kernel_rfl))⟩
 f28:=func250.trans (congrArg some (by kernel_rfl))
 f29:=func251.trans (congrArg some (by kernel_rfl))
 f46:=⟨Tryz.f258.name,by decide,func258.trans (congrArg some (by kernel_rfl))⟩
 f47:=func259.trans (congrArg some (by kernel_rfl))
 f48:=func260.trans (congrArg some (by kernel_rfl))
 f49:=⟨Tryz.f261.name,by decide,func261.trans (congrArg some (by kernel_rfl))⟩
 f50:=⟨Tryz.f262.name,by decide,func262.trans (congrArg some (by kernel_rfl))⟩
 f57:=⟨Tryz.f263.name,by decide,func263.trans (congrArg some (by kernel_rfl))⟩
 t0:=Tryz.underlying0
 a0:=Tryz.isAgg0
 z0:=Tryz.sizeOf0
 v0:=Tryz.zeroValue0
 t3:=Tryz.underlying3
 a3:=Tryz.isAgg3
 z3:=Tryz.sizeOf3
 v3:=Tryz.zeroValue3
 t4:=Tryz.underlying4
 a4:=Tryz.isAgg4
 z4:=Tryz.sizeOf4
 v4:=Tryz.zeroValue4
 t5:=Tryz.underlying5
 a5:=Tryz.isAgg5
 z5:=Tryz.sizeOf5
 v5:=Tryz.zeroValue5
 t9:=Tryz.underlying9
 a9:=Tryz.isAgg9
 z9:=Tryz.sizeOf9
 v9:=Tryz.zeroValue9
 t22:=Tryz.underlying195
 a22:=Tryz.isAgg195
 z22:=Tryz.sizeOf195
 v22:=Tryz.zeroValue195
 t25:=Tryz.underlying245
 a25:=Tryz.isAgg245
 z25:=Tryz.sizeOf245
 v25:=Tryz.zeroValue245
 t39:=Tryz.underlying190
 a39:=Tryz.isAgg190
 z39:=Tryz.sizeOf190
 v39:=Tryz.zeroValue190
 t45:=Tryz.underlying318
 a45:=Tryz.isAgg318
 z45:=Tryz.sizeOf318
 v45:=Tryz.zeroValue318
 t46:=Tryz.underlying319
 a46:=Tryz.isAgg319
 z46:=Tryz.sizeOf319
 v46:=Tryz.zeroValue319
 t50:=Tryz.underlying265
 a50:=Tryz.isAgg265
 z50:=Tryz.sizeOf265
 v50:=Tryz.zeroValue265
 t53:=Tryz.underlying163
 a53:=Tryz.isAgg163
 z53:=Tryz.sizeOf163
 v53:=Tryz.zeroValue163
 t55:=Tryz.underlying38
 a55:=Tryz.isAgg38
 z55:=Tryz.sizeOf38
 v55:=Tryz.zeroValue38
 t66:=Tryz.underlying331
 a66:=Tryz.isAgg331
 z66:=Tryz.sizeOf331
 v66:=Tryz.zeroValue331
 t70:=Tryz.underlying180
 a70:=Tryz.isAgg180
 z70:=Tryz.sizeOf180
 v70:=Tryz.zeroValue180
 t76:=Tryz.underlying335
 a76:=Tryz.isAgg335
 z76:=Tryz.sizeOf335
 v76:=Tryz.zeroValue335
 t77:=Tryz.underlying123
 a77:=Tryz.isAgg123
 z77:=Tryz.sizeOf123
 v77:=Tryz.zeroValue123}
end Go.Proofs
namespace Go.Proofs.YtdolmecackmjdaaGreatDoor
open Go Go.cV Go.Proofs.YtdolmecackmjdaaGreatDoor.Wh
theorem OL{f:FuncId}{args:List Value}{v:Value}(h:aF Tryz.prog f args (λ_=>True) [] (λu H=>u=v∧H= []))(w:World):
  Calls Tryz.prog f args.toArray w λe w'=>e= .returned v∧∃q os,w'=Sort.grow (w.drewN q) os:=by
 refine(h ⟨w.os,w.tape,w.output,jv w,w.drawn⟩ w trivial ⟨rfl,⟨rfl,Nat.le_refl _⟩,rfl,Le.refl _,λ_=>none,trivial,(λ_ _ e=>by cases e),(λ_=> .inl rfl)⟩).mono ?_
 rintro e w' ⟨u,H,rfl,⟨rfl,rfl⟩,s⟩
 obtain⟨s1,⟨s2,s3⟩,s4,s5,_⟩:=s
 refine⟨rfl,w'.drawn-w.drawn,w'.heap.extract w.heap.size w'.heap.size, ?_⟩
 obtain⟨hp',tp',dr',os',out'⟩:=w'
 dsimp only at s1 s2 s3 s4
 subst s1 s2 s4
 unfold Sort.grow World.drewN
 have hl:∀b,b<w.heap.size→hp'[b]?=w.heap[b]?:=λb hb=>by
  rw[adM hb]
  exact s5 b _ (adM hb)
 have hh:hp'=w.heap++hp'.extract w.heap.size hp'.size:=by
  apply ad3
  intro b
  by_cases hb:b<w.heap.size
  ·rw[aeJ hb];exact hl b hb
  rw[Array.getElem?_append_right (by omega),Array.getElem?_extract]
  by_cases cX:b<hp'.size
  ·rw[if_pos (by omega),show w.heap.size+(b-w.heap.size)=b by omega]
  rw[if_neg (by omega),Array.getElem?_eq_none (by omega)]
 have hd:dr'=w.drawn+(dr'-w.drawn):=by omega
 dsimp only
 congr 1
instance J4:Inhabited En:=⟨⟨0,0,0⟩⟩
theorem Be (L:List En):Go.Sort.flatK eN 3 L.toArray=(L.flatMap eN).toArray:=by
 apply ad3
 intro t
 unfold Go.Sort.flatK
 simp only[afn,Array.getElem?_map,Array.getElem?_range,ae3]
 by_cases ht:t<L.length*3
 ·rw[if_pos ht,Option.map_some]
  have q:t/3<L.length:=by omega
  have e:=bj jL (l:=L) (i:=t/3) (a:=L[t/3]) (aac q) (j:=t % 3) (v:=(eN L[t/3])[t % 3]!) (by
   have:t % 3<(eN L[t/3]).length:=by rw[jL];omega
   rw[aac this,getElem!_pos (eN L[t/3]) (t % 3) this])
  rw[show t/3*3+t % 3=t by omega]at e
  rw[e]
  congr 2
  rw[getElem!_pos L.toArray (t/3) (by simpa using q)]
  simp
 rw[if_neg ht,List.getElem?_eq_none (by rw[Wh.dx];omega)];rfl
theorem abH:Go.Sort.SWO (ltOf CE)where
 irrefl x:=by unfold ltOf;rw[decide_eq_false];rw[l7];unfold En.lt;omega
 trans x y z h1 h2:=by
  unfold ltOf at*
  rw[decide_eq_true_eq,l7]at*
  unfold En.lt at*;omega
 ntrans x y z h1 h2:=by
  unfold ltOf at*
  rw[decide_eq_false_iff_not,l7]at*
  unfold En.lt at*;omega
theorem St.grow{F:dy}{H:List aa}{w:World}(s:St F H w)(os:Array Obj):St F H (Sort.grow w os):=by
 obtain⟨a1,a2,a3,fr,h,st,y,z⟩:=s
 have hold:∀k:Hp,Le k (jv w)→Le k (jv (Sort.grow w os)):=by
  intro k lk x ob ex
  have hx:=lk x ob ex
  unfold jv at*
  have cB:=(adu.1 hx).1
  show(w.heap++os)[x]?=_
  rw[aeJ cB];exact hx
 exact⟨a1,a2,a3,hold _ fr,h,st,hold _ y,z⟩
theorem St.ahead{F:dy}{H:List aa}{w:World}(s:St F H w)(n:Nat):St F H (Sort.ahead w n):=by
 obtain⟨a1,a2,a3,fr,h,st,y,z⟩:=s
 exact⟨a1,⟨a2.1,Nat.le_trans a2.2 (Nat.le_add_right _ _)⟩,a3,fr,h,st,y,z⟩
theorem BH (cs ts sp:List Value)(hl:ts.length=cs.length):Sort.putCells (id:Value→Value) 0 ts.toArray (cs++sp).toArray=(ts++sp).toArray:=by
 apply ad3
 intro k
 unfold Sort.putCells
 simp only[Array.getElem?_mapIdx,ae3,afn,aas,Nat.zero_le,true_and,Nat.sub_zero]
 by_cases hk:k<ts.length
 ·rw[adN (by omega),adN hk,aac (by omega),aac hk]
  simp only[Option.map_some,hk,if_true]
  have:ts.toArray[k]! =ts[k]:=by rw[getElem!_pos _ k (by simpa using hk)];simp
  rw[this];rfl
 rw[aeK (by omega),aeK (by omega),hl]
 have:(λx:Value=>if k<ts.length then id ts.toArray[k]! else x)=id:=by funext x;simp[hk]
 cases hs:sp[k-cs.length]? with
 |none=>rfl
 |some v=>
  have sP:¬k<cs.length:=by omega
  simp[hk,sP]
theorem St.putRow{F:dy}{R:List aa}{w:World}{b e:Nat}{cs ts sp:List Value}(hl:ts.length=cs.length)(s:St F (ag b e (cs++sp)::R) w):St F (ag b e (ts++sp)::R) (Sort.putRow (id:Value→Value) w b 0 ts.toArray):=by
 obtain⟨hh,⟨lo,hi,hf,hb⟩,hle⟩:=s.get
 have hw:w.heap[b]?=some (.cells (cs++sp).toArray e (lo,hi)):=hle _ _ hb
 have cB:=(adu.1 hw).1
 have key:Sort.putRow (id:Value→Value) w b 0 ts.toArray={w with heap:=w.heap.setIfInBounds b (.cells (ts++sp).toArray e (lo,hi))}:=by
  unfold Sort.putRow Sort.mapBlock
  congr 1
  apply ad3
  intro x
  rw[Array.getElem?_modify,Array.getElem?_setIfInBounds]
  by_cases hx:b=x
  ·subst hx
   rw[if_pos rfl,if_pos rfl,if_pos cB,hw]
   simp only[Option.map_some,Sort.onCells,BH cs ts sp hl]
  rw[if_neg hx,if_neg hx]
 rw[key]
 exact s.Rf (λh p=>by obtain⟨_,_,_,q⟩:=p;exact⟨_,q⟩) (.mk lo hi (by rw[aal]at hf⊢;omega) (by simp))
theorem sL:mX:=by
 intro a cap L hcap wT hlen F w _ s
 obtain⟨a1,a2,a3,fr,h,⟨h1,h2,d,l1,l2,⟨r1,r2,r3⟩,st⟩,y,z⟩:=s
 have hE:∀M:List En,(M.flatMap eN).length=M.length*3:=Wh.dx
 rcases r3 with⟨rfl,rfl⟩|⟨b,sp,rfl,r4,r5⟩
 ·have hL:L= []:=aaw (by omega)
  subst hL
  refine(AnyF.slices_SortFunc_none Tryz.aa0 none 0 _ w).mono ?_
  rintro e w' ⟨rfl,rfl⟩
  refine⟨_,_,rfl,⟨rfl,rfl⟩,a1,a2,a3,fr,h,⟨h1,h2,d,l1,l2, ?_,st⟩,y,z⟩
  have:fV []= []:=aaw (fH []).length_eq
  rw[this]
  exact⟨r1,r2, .inl ⟨rfl,rfl⟩⟩
 have s1:St F [ag b 243 (L.flatMap eN++sp)] w:=⟨a1,a2,a3,fr,h,⟨h1,h2,d,l1,l2,r5,st⟩,y,z⟩
 have hH:Sort.HoldsK eN 3 w b 0 L.toArray:=by
  unfold Sort.HoldsK
  rw[Be]
  intro j hj
  have ZT:j<(L.flatMap eN).length:=by simpa using hj
  have Wf:(L.flatMap eN++sp)[j]?=some ((L.flatMap eN)[j]):=by rw[adN ZT,aac ZT]
  have e1:(L.flatMap eN).toArray[j]! =(L.flatMap eN)[j]:=by rw[getElem!_pos _ j (by simpa using ZT)];simp
  rw[aas,e1]
  exact⟨lq (l1.trans y) (eR r5 Wf),vf r5 (by rw[aal];omega) (l1.trans y)⟩
 have hblk:b<w.heap.size:=by
  obtain⟨lo,hi,_,hb⟩:=r5
  exact(adu.1 ((l1.trans y) _ _ hb)).1
 have eg:∀args w,(callFunc 143 args).run Tryz.prog w= .ok (.enter 143 args) w:=enters_of func143 (by kernel_rfl) rfl
 have hcmp:CmpLays Tryz.prog 143 #[] eN 3 CE b 0 L.toArray.size w:=λm os dk hdk x y=>by
  have:=OL (qx x y) (sortWorldK eN 3 w b 0 m dk os)
  exact this
 have con:=AnyQ.slices_SortFunc Tryz.aa0 3 Tryz.isAgg243 Tryz.sizeOf243 eN (λx=>rfl) (λx v hv=>by
  unfold eN at hv
  simp only[List.mem_cons,List.not_mem_nil,or_false]at hv
  rcases hv with rfl|rfl|rfl<;>rfl) CE abH 143 #[] b 0 cap L.toArray w eg hcmp hH hblk (by simp;omega)
 have con2:Calls Tryz.prog 142 #[.slice (some ⟨b,0,none⟩) L.length cap, .func (.func 143) #[] #[]] w _:=con
 refine con2.mono ?_
 rintro e w' ⟨rfl,d',n,os,⟨p1,p2,p3⟩,p4,rfl⟩
 have hs:d'.size=L.length:=by rw[p1];simp
 have hp:d'.toList.Perm L:=by
  have q1:(d'.extract 0 L.toArray.size).toList=d'.toList:=by rw[←p1];simp
  have q2:(L.toArray.extract 0 L.toArray.size).toList=L:=by simp
  rw[q1,q2]at p3
  exact p3
 have hw:d'.toList=fV L:=Fl hp wT (by
  rw[List.pairwise_iff_getElem]
  intro i j hi hj Uy
  have wx:i<d'.size:=by simpa using hi
  have ZT:j<d'.size:=by simpa using hj
  have:=p4 i j (Nat.zero_le _) Uy (by rw[←p1];exact ZT)
  rw[getElem!_pos d' i wx,getElem!_pos d' j ZT]at this
  unfold ltOf at this
  rw[decide_eq_false_iff_not,l7]at this
  simpa using this)
 have hd:d'=(fV L).toArray:=by rw[←hw]
 subst hd
 have ZP:(fV L).length=L.length:=(fH L).length_eq
 refine⟨_,_,rfl,⟨rfl,rfl⟩, ?_⟩
 have s2:=St.putRow (ts:=(fV L).flatMap eN) (by rw[hE,hE,ZP]) (St.ahead s1 n)
 have s3:=St.grow s2 os
 have ew:sortWorldK eN 3 w b 0 n (fV L).toArray os=Sort.grow (Sort.putRow id (Sort.ahead w n) b 0 ((fV L).flatMap eN).toArray) os:=by
  unfold sortWorldK Sort.putRowK
  rw[Be]
 rw[ew]
 refine s3.sub λk sk=>aY (λ_ p=>⟨?_,r2, .inr ⟨b,sp,rfl, ?_,p⟩⟩) sk
 ·rw[hE,ZP,←hE];exact r1
 rw[hE,ZP,←hE];exact r4
end Go.Proofs.YtdolmecackmjdaaGreatDoor
