/- Part Pn of the proof. -/
import Derived.Test.YtdolmecackmjdaaGreatDoorPi
import Derived.Shelf.SlSortCmp.NoneTotal
import Derived.Test.YtdolmecackmjdaaGreatDoorProg
set_option maxRecDepth 100000
open Array renaming getElem?_eq_getElem → agw, ext_getElem? → agM, getElem?_append_left → ahu, getElem?_eq_some_iff → adx
open List renaming size_toArray → ah9, getElem?_toArray → ahR, getElem?_eq_getElem → acx, getElem?_append_left → agx, getElem?_append_right → ahv, length_append → acI, eq_nil_of_length_eq_zero → acW
open Nat renaming zero_add → acQ
open Go.Proofs.Tryz
namespace Go.Proofs
open Go.Shelf
def Tryz.Rp:Go.Shelf.Ren:=⟨fun|6=>142|15=>206|14=>205|28=>250|29=>251|20=>242|21=>243|22=>244|23=>245|24=>246|25=>247|26=>248|27=>249|46=>258|47=>259|48=>260|49=>261|50=>262|57=>263|n=>n,fun|22=>195|24=>243|25=>245|3=>3|39=>190|0=>0|53=>163|55=>38|4=>4|46=>319|45=>318|50=>265|5=>5|9=>9|66=>331|70=>180|76=>335|77=>123|n=>n,fun|n=>n⟩
theorem Tryz.ad0:Go.Proofs.SlLaysF0.n6 Tryz.prog Tryz.Rp:={
 mixed:=by kernel_rfl
 f6:=⟨Tryz.f142.name,by decide,func142.trans (congrArg some (by kernel_rfl))⟩
 f14:=⟨Tryz.f205.name,by decide,func205.trans (congrArg some (by kernel_rfl))⟩
 f15:=func206.trans (congrArg some (by kernel_rfl))
 f20:=⟨Tryz.f242.name,by decide,func242.trans (congrArg some (by kernel_rfl))⟩
 f21:=⟨Tryz.f243.name,by decide,func243.trans (congrArg some (by kernel_rfl))⟩
 f22:=⟨Tryz.f244.name,by decide,func244.trans (congrArg some (by kernel_rfl))⟩
 f23:=⟨Tryz.f245.name,by decide,func245.trans (congrArg some (by kernel_rfl))⟩
 f24:=⟨Tryz.f246.name,by decide,func246.trans (congrArg some (by kernel_rfl))⟩
 f25:=⟨Tryz.f247.name,by decide,func247.trans (congrArg some (by kernel_rfl))⟩
 f26:=⟨Tryz.f248.name,by decide,func248.trans (congrArg some (by kernel_rfl))⟩
 f27:=⟨Tryz.f249.name,by decide,func249.trans (congrArg some (by kernel_rfl))⟩
 f28:=func250.trans (congrArg some (by kernel_rfl))
 f29:=func251.trans (congrArg some (by kernel_rfl))
 f46:=⟨Tryz.f258.name,by decide,func258.trans (congrArg some (by kernel_rfl))⟩
 f47:=func259.trans (congrArg some (by kernel_rfl))
 f48:=func260.trans (congrArg some (by kernel_rfl))
 f49:=⟨Tryz.f261.name,by decide,func261.trans (congrArg some (by kernel_rfl))⟩
 f50:=⟨Tryz.f262.name,by decide,func262.trans (congrArg some (by kernel_rfl))⟩
 f57:=⟨Tryz.f263.name,by decide,func263.trans (congrArg some (by kernel_rfl))⟩
 t0:=Tryz.underlying0
 a0:=Tryz.isAgg0
 z0:=Tryz.sizeOf0
 v0:=Tryz.zeroValue0
 t3:=Tryz.underlying3
 a3:=Tryz.isAgg3
 z3:=Tryz.sizeOf3
 v3:=Tryz.zeroValue3
 t4:=Tryz.underlying4
 a4:=Tryz.isAgg4
 z4:=Tryz.sizeOf4
 v4:=Tryz.zeroValue4
 t5:=Tryz.underlying5
 a5:=Tryz.isAgg5
 z5:=Tryz.sizeOf5
 v5:=Tryz.zeroValue5
 t9:=Tryz.underlying9
 a9:=Tryz.isAgg9
 z9:=Tryz.sizeOf9
 v9:=Tryz.zeroValue9
 t22:=Tryz.underlying195
 a22:=Tryz.isAgg195
 z22:=Tryz.sizeOf195
 v22:=Tryz.zeroValue195
 t25:=Tryz.underlying245
 a25:=Tryz.isAgg245
 z25:=Tryz.sizeOf245
 v25:=Tryz.zeroValue245
 t39:=Tryz.underlying190
 a39:=Tryz.isAgg190
 z39:=Tryz.sizeOf190
 v39:=Tryz.zeroValue190
 t45:=Tryz.underlying318
 a45:=Tryz.isAgg318
 z45:=Tryz.sizeOf318
 v45:=Tryz.zeroValue318
 t46:=Tryz.underlying319
 a46:=Tryz.isAgg319
 z46:=Tryz.sizeOf319
 v46:=Tryz.zeroValue319
 t50:=Tryz.underlying265
 a50:=Tryz.isAgg265
 z50:=Tryz.sizeOf265
 v50:=Tryz.zeroValue265
 t53:=Tryz.underlying163
 a53:=Tryz.isAgg163
 z53:=Tryz.sizeOf163
 v53:=Tryz.zeroValue163
 t55:=Tryz.underlying38
 a55:=Tryz.isAgg38
 z55:=Tryz.sizeOf38
 v55:=Tryz.zeroValue38
 t66:=Tryz.underlying331
 a66:=Tryz.isAgg331
 z66:=Tryz.sizeOf331
 v66:=Tryz.zeroValue331
 t70:=Tryz.underlying180
 a70:=Tryz.isAgg180
 z70:=Tryz.sizeOf180
 v70:=Tryz.zeroValue180
 t76:=Tryz.underlying335
 a76:=Tryz.isAgg335
 z76:=Tryz.sizeOf335
 v76:=Tryz.zeroValue335
 t77:=Tryz.underlying123
 a77:=Tryz.isAgg123
 z77:=Tryz.sizeOf123
 v77:=Tryz.zeroValue123}
end Go.Proofs
namespace Go.Proofs.YtdolmecackmjdaaGreatDoor
open Go Go.dL Go.Proofs.YtdolmecackmjdaaGreatDoor.Wh
theorem RI{f:FuncId}{args:List Value}{v:Value}(h:aH Tryz.prog f args (λ_=>True) [] (λu H=>u=v∧H= []))(w:World):
  Calls Tryz.prog f args.toArray w λe w'=>e= .returned v∧∃q os,w'=Sort.grow (w.drewN q) os:=by
 refine(h ⟨w.os,w.tape,w.output,kh w,w.drawn⟩ w trivial ⟨rfl,⟨rfl,Nat.le_refl _⟩,rfl,Le.refl _,λ_=>none,trivial,(λ_ _ e=>by cases e),(λ_=> .inl rfl)⟩).mono ?_;rintro e w' ⟨u,H,rfl,⟨rfl,rfl⟩,s⟩;obtain⟨s1,⟨s2,s3⟩,s4,s5,_⟩:=s;refine⟨rfl,w'.drawn-w.drawn,w'.heap.extract w.heap.size w'.heap.size, ?_⟩;obtain⟨hp',tp',dr',os',out'⟩:=w';dsimp only at s1 s2 s3 s4;subst s1 s2 s4;unfold Sort.grow World.drewN;have hl:∀b,b<w.heap.size→hp'[b]?=w.heap[b]?:=λb hb=>by
  rw[agw hb];exact s5 b _ (agw hb)
 have hh:hp'=w.heap++hp'.extract w.heap.size hp'.size:=by
  apply agM;intro b;by_cases hb:b<w.heap.size
  ·rw[ahu hb];exact hl b hb
  rw[Array.getElem?_append_right (by omega),Array.getElem?_extract];by_cases bS:b<hp'.size
  ·rw[if_pos (by omega),show w.heap.size+(b-w.heap.size)=b by omega]
  rw[if_neg (by omega),Array.getElem?_eq_none (by omega)]
 have hd:dr'=w.drawn+(dr'-w.drawn):=by omega
 dsimp only
 congr 1
instance MK:Inhabited En:=⟨⟨0,0,0⟩⟩
theorem Dc (L:List En):Go.Sort.flatK eN 3 L.toArray=(L.flatMap eN).toArray:=by
 apply agM;intro t;unfold Go.Sort.flatK;simp only[ah9,Array.getElem?_map,Array.getElem?_range,ahR];by_cases ht:t<L.length*3
 ·rw[if_pos ht,Option.map_some]
  have q:t/3<L.length:=by omega
  have e:=bE kM (l:=L) (i:=t/3) (a:=L[t/3]) (acx q) (j:=t % 3) (v:=(eN L[t/3])[t % 3]!) (by
   have:t % 3<(eN L[t/3]).length:=by rw[kM];omega
   rw[acx this,getElem!_pos (eN L[t/3]) (t % 3) this])
  rw[show t/3*3+t % 3=t by omega]at e;rw[e]
  congr 2
  rw[getElem!_pos L.toArray (t/3) (by simpa using q)];simp
 rw[if_neg ht,List.getElem?_eq_none (by rw[Wh.ed];omega)];rfl
theorem aeK:Go.Sort.SWO (ltOf EA)where
 irrefl x:=by unfold ltOf;rw[decide_eq_false];rw[nD];unfold En.lt;omega
 trans x y z h1 h2:=by
  unfold ltOf at*;rw[decide_eq_true_eq,nD]at*;unfold En.lt at*;omega
 ntrans x y z h1 h2:=by
  unfold ltOf at*;rw[decide_eq_false_iff_not,nD]at*;unfold En.lt at*;omega
theorem St.grow{F:ee}{H:List aa}{w:World}(s:St F H w)(os:Array Obj):St F H (Sort.grow w os):=by
 obtain⟨a1,a2,a3,fr,h,st,y,z⟩:=s;have hold:∀k:Hp,Le k (kh w)→Le k (kh (Sort.grow w os)):=by
  intro k lk x ob ex;have hx:=lk x ob ex;unfold kh at*;have bX:=(adx.1 hx).1;show(w.heap++os)[x]?=_;rw[ahu bX];exact hx
 exact⟨a1,a2,a3,hold _ fr,h,st,hold _ y,z⟩
theorem St.ahead{F:ee}{H:List aa}{w:World}(s:St F H w)(n:Nat):St F H (Sort.ahead w n):=by
 obtain⟨a1,a2,a3,fr,h,st,y,z⟩:=s;exact⟨a1,⟨a2.1,Nat.le_trans a2.2 (Nat.le_add_right _ _)⟩,a3,fr,h,st,y,z⟩
theorem DH (cs ts sp:List Value)(hl:ts.length=cs.length):Sort.putCells (id:Value→Value) 0 ts.toArray (cs++sp).toArray=(ts++sp).toArray:=by
 apply agM;intro k;unfold Sort.putCells;simp only[Array.getElem?_mapIdx,ahR,ah9,acQ,Nat.zero_le,true_and,Nat.sub_zero];by_cases hk:k<ts.length
 ·rw[agx (by omega),agx hk,acx (by omega),acx hk]
  simp only[Option.map_some,hk,if_true];have:ts.toArray[k]! =ts[k]:=by rw[getElem!_pos _ k (by simpa using hk)];simp
  rw[this];rfl
 rw[ahv (by omega),ahv (by omega),hl];have:(λx:Value=>if k<ts.length then id ts.toArray[k]! else x)=id:=by funext x;simp[hk]
 cases hs:sp[k-cs.length]? with
 |none=>rfl
 |some v=>
  have rB:¬k<cs.length:=by omega
  simp[hk,rB]
theorem St.putRow{F:ee}{R:List aa}{w:World}{b e:Nat}{cs ts sp:List Value}(hl:ts.length=cs.length)(s:St F (ag b e (cs++sp)::R) w):St F (ag b e (ts++sp)::R) (Sort.putRow (id:Value→Value) w b 0 ts.toArray):=by
 obtain⟨hh,⟨lo,hi,hf,hb⟩,hle⟩:=s.get;have hw:w.heap[b]?=some (.cells (cs++sp).toArray e (lo,hi)):=hle _ _ hb;have bX:=(adx.1 hw).1;have key:Sort.putRow (id:Value→Value) w b 0 ts.toArray={w with heap:=w.heap.setIfInBounds b (.cells (ts++sp).toArray e (lo,hi))}:=by
  unfold Sort.putRow Sort.mapBlock
  congr 1
  apply agM;intro x;rw[Array.getElem?_modify,Array.getElem?_setIfInBounds];by_cases hx:b=x
  ·subst hx
   rw[if_pos rfl,if_pos rfl,if_pos bX,hw];simp only[Option.map_some,Sort.onCells,DH cs ts sp hl]
  rw[if_neg hx,if_neg hx]
 rw[key];exact s.UC (λh p=>by obtain⟨_,_,_,q⟩:=p;exact⟨_,q⟩) (.mk lo hi (by rw[acI]at hf⊢;omega) (by simp))
theorem uO:oU:=by
 intro a cap L hcap yF hlen F w _ s;obtain⟨a1,a2,a3,fr,h,⟨h1,h2,d,l1,l2,⟨r1,r2,r3⟩,st⟩,y,z⟩:=s;have hE:∀M:List En,(M.flatMap eN).length=M.length*3:=Wh.ed;rcases r3 with⟨rfl,rfl⟩|⟨b,sp,rfl,r4,r5⟩
 ·have hL:L= []:=acW (by omega)
  subst hL;refine(AnyF.slices_SortFunc_none Tryz.ad0 none 0 _ w).mono ?_;rintro e w' ⟨rfl,rfl⟩;refine⟨_,_,rfl,⟨rfl,rfl⟩,a1,a2,a3,fr,h,⟨h1,h2,d,l1,l2, ?_,st⟩,y,z⟩;have:gE []= []:=acW (gq []).length_eq;rw[this];exact⟨r1,r2, .inl ⟨rfl,rfl⟩⟩
 have s1:St F [ag b 243 (L.flatMap eN++sp)] w:=⟨a1,a2,a3,fr,h,⟨h1,h2,d,l1,l2,r5,st⟩,y,z⟩;have hH:Sort.HoldsK eN 3 w b 0 L.toArray:=by
  unfold Sort.HoldsK;rw[Dc];intro j hj;have hj':j<(L.flatMap eN).length:=by simpa using hj
  have ED:(L.flatMap eN++sp)[j]?=some ((L.flatMap eN)[j]):=by rw[agx hj',acx hj']
  have e1:(L.flatMap eN).toArray[j]! =(L.flatMap eN)[j]:=by rw[getElem!_pos _ j (by simpa using hj')];simp
  rw[acQ,e1];exact⟨kR (l1.trans y) (eS r5 ED),r9 r5 (by rw[acI];omega) (l1.trans y)⟩
 have hblk:b<w.heap.size:=by
  obtain⟨lo,hi,_,hb⟩:=r5;exact(adx.1 ((l1.trans y) _ _ hb)).1
 have eg:∀args w,(callFunc 143 args).run Tryz.prog w= .ok (.enter 143 args) w:=enters_of func143 (by kernel_rfl) rfl;have hcmp:CmpLays Tryz.prog 143 #[] eN 3 EA b 0 L.toArray.size w:=λm os dk hdk x y=>by
  have:=RI (se x y) (sortWorldK eN 3 w b 0 m dk os);exact this
 have con:=AnyQ.slices_SortFunc Tryz.ad0 3 Tryz.isAgg243 Tryz.sizeOf243 eN (λx=>rfl) (λx v hv=>by
  unfold eN at hv;simp only[List.mem_cons,List.not_mem_nil,or_false]at hv;rcases hv with rfl|rfl|rfl<;>rfl) EA aeK 143 #[] b 0 cap L.toArray w eg hcmp hH hblk (by simp;omega)
 have con2:Calls Tryz.prog 142 #[.slice (some ⟨b,0,none⟩) L.length cap, .func (.func 143) #[] #[]] w _:=con;refine con2.mono ?_;rintro e w' ⟨rfl,d',n,os,⟨p1,p2,p3⟩,p4,rfl⟩;have hs:d'.size=L.length:=by rw[p1];simp
 have hp:d'.toList.Perm L:=by
  have q1:(d'.extract 0 L.toArray.size).toList=d'.toList:=by rw[←p1];simp
  have q2:(L.toArray.extract 0 L.toArray.size).toList=L:=by simp
  rw[q1,q2]at p3;exact p3
 have hw:d'.toList=gE L:=Hz hp yF (by
  rw[List.pairwise_iff_getElem];intro i j hi hj Uk;have vN:i<d'.size:=by simpa using hi
  have hj':j<d'.size:=by simpa using hj
  have:=p4 i j (Nat.zero_le _) Uk (by rw[←p1];exact hj');rw[getElem!_pos d' i vN,getElem!_pos d' j hj']at this;unfold ltOf at this;rw[decide_eq_false_iff_not,nD]at this
  simpa using this)
 have hd:d'=(gE L).toArray:=by rw[←hw]
 subst hd;have TN:(gE L).length=L.length:=(gq L).length_eq;refine⟨_,_,rfl,⟨rfl,rfl⟩, ?_⟩;have s2:=St.putRow (ts:=(gE L).flatMap eN) (by rw[hE,hE,TN]) (St.ahead s1 n);have s3:=St.grow s2 os;have ew:sortWorldK eN 3 w b 0 n (gE L).toArray os=Sort.grow (Sort.putRow id (Sort.ahead w n) b 0 ((gE L).flatMap eN).toArray) os:=by
  unfold sortWorldK Sort.putRowK;rw[Dc]
 rw[ew];refine s3.sub λk sk=>bm (λ_ p=>⟨?_,r2, .inr ⟨b,sp,rfl, ?_,p⟩⟩) sk
 ·rw[hE,TN,←hE];exact r1
 rw[hE,TN,←hE];exact r4
end Go.Proofs.YtdolmecackmjdaaGreatDoor
