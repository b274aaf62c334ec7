/- Part Pn of the proof. -/
import Derived.Test.YtcbcjolpdljbiaaGreatPi
import Derived.Shelf.SlSortCmp.NoneTotal
set_option maxRecDepth 100000
open Array renaming getElem?_eq_getElem -> aha, ext_getElem? -> agR, getElem?_append_left -> ajY, getElem?_eq_some_iff -> agv
open List renaming size_toArray -> akw, getElem?_toArray -> akg, getElem?_eq_getElem -> aac, getElem?_append_left -> agC, getElem?_append_right -> ajZ, length_append -> aby, eq_nil_of_length_eq_zero -> abO
open Nat renaming zero_add -> abH
open Go.Proofs.Tryz
namespace Go.Proofs
open Go.Shelf
def Tryz.UF:Go.Shelf.Ren:=⟨fun|6=>115|15=>165|14=>164|28=>236|29=>237|20=>228|21=>229|22=>230|23=>231|24=>232|25=>233|26=>234|27=>235|46=>269|47=>270|48=>271|49=>272|50=>273|57=>278|n=>n,fun|22=>197|24=>202|25=>204|3=>3|39=>247|0=>0|53=>149|55=>35|4=>4|46=>304|45=>303|50=>300|5=>5|9=>9|66=>329|70=>140|76=>339|77=>98|n=>n,fun|n=>n⟩
theorem Tryz.ahw:Go.Proofs.SlLaysF0.n6 Tryz.prog Tryz.UF:={
 mixed:=by kernel_rfl
 f6:=⟨Tryz.f115.name,by decide,func115.trans (congrArg some (by kernel_rfl))⟩
 f14:=⟨Tryz.f164.name,by decide,func164.trans (congrArg some (by kernel_rfl))⟩
 f15:=func165.trans (congrArg some (by kernel_rfl))
 f20:=⟨Tryz.f228.name,by decide,func228.trans (congrArg some (by kernel_rfl))⟩
 f21:=⟨Tryz.f229.name,by decide,func229.trans (congrArg some (by kernel_rfl))⟩
 f22:=⟨Tryz.f230.name,by decide,func230.trans (congrArg some (by kernel_rfl))⟩
 f23:=⟨Tryz.f231.name,by decide,func231.trans (congrArg some (by kernel_rfl))⟩
 f24:=⟨Tryz.f232.name,by decide,func232.trans (congrArg some (by kernel_rfl))⟩
 f25:=⟨Tryz.f233.name,by decide,func233.trans (congrArg some (by kernel_rfl))⟩
 f26:=⟨Tryz.f234.name,by decide,func234.trans (congrArg some (by kernel_rfl))⟩
 f27:=⟨Tryz.f235.name,by decide,func235.trans (congrArg some (by kernel_rfl))⟩
 f28:=func236.trans (congrArg some (by kernel_rfl))
 f29:=func237.trans (congrArg some (by kernel_rfl))
 f46:=⟨Tryz.f269.name,by decide,func269.trans (congrArg some (by kernel_rfl))⟩
 f47:=func270.trans (congrArg some (by kernel_rfl))
 f48:=func271.trans (congrArg some (by kernel_rfl))
 f49:=⟨Tryz.f272.name,by decide,func272.trans (congrArg some (by kernel_rfl))⟩
 f50:=⟨Tryz.f273.name,by decide,func273.trans (congrArg some (by kernel_rfl))⟩
 f57:=⟨Tryz.f278.name,by decide,func278.trans (congrArg some (by kernel_rfl))⟩
 t0:=Tryz.underlying0
 a0:=Tryz.isAgg0
 z0:=Tryz.sizeOf0
 v0:=Tryz.zeroValue0
 t3:=Tryz.underlying3
 a3:=Tryz.isAgg3
 z3:=Tryz.sizeOf3
 v3:=Tryz.zeroValue3
 t4:=Tryz.underlying4
 a4:=Tryz.isAgg4
 z4:=Tryz.sizeOf4
 v4:=Tryz.zeroValue4
 t5:=Tryz.underlying5
 a5:=Tryz.isAgg5
 z5:=Tryz.sizeOf5
 v5:=Tryz.zeroValue5
 t9:=Tryz.underlying9
 a9:=Tryz.isAgg9
 z9:=Tryz.sizeOf9
 v9:=Tryz.zeroValue9
 t22:=Tryz.underlying197
 a22:=Tryz.isAgg197
 z22:=Tryz.sizeOf197
 v22:=Tryz.zeroValue197
 t25:=Tryz.underlying204
 a25:=Tryz.isAgg204
 z25:=Tryz.sizeOf204
 v25:=Tryz.zeroValue204
 t39:=Tryz.underlying247
 a39:=Tryz.isAgg247
 z39:=Tryz.sizeOf247
 v39:=Tryz.zeroValue247
 t45:=Tryz.underlying303
 a45:=Tryz.isAgg303
 z45:=Tryz.sizeOf303
 v45:=Tryz.zeroValue303
 t46:=Tryz.underlying304
 a46:=Tryz.isAgg304
 z46:=Tryz.sizeOf304
 v46:=Tryz.zeroValue304
 t50:=Tryz.underlying300
 a50:=Tryz.isAgg300
 z50:=Tryz.sizeOf300
 v50:=Tryz.zeroValue300
 t53:=Tryz.underlying149
 a53:=Tryz.isAgg149
 z53:=Tryz.sizeOf149
 v53:=Tryz.zeroValue149
 t55:=Tryz.underlying35
 a55:=Tryz.isAgg35
 z55:=Tryz.sizeOf35
 v55:=Tryz.zeroValue35
 t66:=Tryz.underlying329
 a66:=Tryz.isAgg329
 z66:=Tryz.sizeOf329
 v66:=Tryz.zeroValue329
 t70:=Tryz.underlying140
 a70:=Tryz.isAgg140
 z70:=Tryz.sizeOf140
 v70:=Tryz.zeroValue140
 t76:=Tryz.underlying339
 a76:=Tryz.isAgg339
 z76:=Tryz.sizeOf339
 v76:=Tryz.zeroValue339
 t77:=Tryz.underlying98
 a77:=Tryz.isAgg98
 z77:=Tryz.sizeOf98
 v77:=Tryz.zeroValue98}
end Go.Proofs
namespace Go.Proofs.YtcbcjolpdljbiaaGreat
open Go Go.dC Go.Proofs.YtcbcjolpdljbiaaGreat.Wh
theorem UW{f:FuncId}{args:FJ}{v:Value}(h:aG Tryz.prog f args (λ_=>True) [] (λu H=>u=v/\H= []))(w:World):
  Calls Tryz.prog f args.toArray w λe w'=>e= .returned v/\∃q os,w'=Sort.grow (w.drewN q) os:=by
 refine(h ⟨w.os,w.tape,w.output,lr w,w.drawn⟩ w trivial ⟨rfl,⟨rfl,Nat.le_refl _⟩,rfl,Le.refl _,λ_=>none,trivial,(λ_ _ e=>by cases e),(λ_=> .inl rfl)⟩).mono ?_;rintro e w' ⟨u,H,rfl,⟨rfl,rfl⟩,s⟩;obtain⟨s1,⟨s2,s3⟩,s4,s5,_⟩:=s;refine⟨rfl,w'.drawn-w.drawn,w'.heap.extract w.heap.size w'.heap.size, ?_⟩;obtain⟨hp',tp',dr',os',out'⟩:=w';dsimp only at s1 s2 s3 s4;subst s1 s2 s4;unfold Sort.grow World.drewN;have hl:∀b,b<w.heap.size->hp'[b]?=w.heap[b]?:=λb hb=>by
  rw[aha hb];exact s5 b _ (aha hb)
 have hh:hp'=w.heap++hp'.extract w.heap.size hp'.size:=by
  apply agR;intro b;by_cases hb:b<w.heap.size
  ·rw[ajY hb];exact hl b hb
  rw[Array.getElem?_append_right (by omega),Array.getElem?_extract];by_cases eM:b<hp'.size
  ·rw[if_pos (by omega),show w.heap.size+(b-w.heap.size)=b by omega]
  rw[if_neg (by omega),Array.getElem?_eq_none (by omega)]
 have hd:dr'=w.drawn+(dr'-w.drawn):=by omega
 dsimp only
 congr 1
instance ak1:Inhabited En:=⟨⟨0,0,0⟩⟩
theorem Fm (L:List En):Go.Sort.flatK eN 3 L.toArray=(L.flatMap eN).toArray:=by
 apply agR;intro t;unfold Go.Sort.flatK;simp only[akw,Array.getElem?_map,Array.getElem?_range,akg];by_cases ht:t<L.length*3
 ·rw[if_pos ht,Option.map_some]
  have q:t/3<L.length:=by omega
  have e:=bb lN (l:=L) (i:=t/3) (a:=L[t/3]) (aac q) (j:=t % 3) (v:=(eN L[t/3])[t % 3]!) (by
   have:t % 3<(eN L[t/3]).length:=by rw[lN];omega
   rw[aac this,getElem!_pos (eN L[t/3]) (t % 3) this])
  rw[show t/3*3+t % 3=t by omega]at e;rw[e]
  congr 2
  rw[getElem!_pos L.toArray (t/3) (by simpa using q)];simp
 rw[if_neg ht,List.getElem?_eq_none (by rw[Wh.ed];omega)];rfl
theorem aip:Go.Sort.SWO (ltOf GF)where
 irrefl x:=by unfold ltOf;rw[decide_eq_false];rw[oq];unfold En.lt;omega
 trans x y z h1 h2:=by
  unfold ltOf at*;rw[decide_eq_true_eq,oq]at*;unfold En.lt at*;omega
 ntrans x y z h1 h2:=by
  unfold ltOf at*;rw[decide_eq_false_iff_not,oq]at*;unfold En.lt at*;omega
theorem St.grow{F:dG}{H:F8}{w:World}(s:St F H w)(os:Array Obj):St F H (Sort.grow w os):=by
 obtain⟨a1,a2,a3,fr,h,st,y,z⟩:=s;have hold:∀k:Hp,Le k (lr w)->Le k (lr (Sort.grow w os)):=by
  intro k lk x ob ex;have hx:=lk x ob ex;unfold lr at*;have cJ:=(agv.1 hx).1;show(w.heap++os)[x]?=_;rw[ajY cJ];exact hx
 exact⟨a1,a2,a3,hold _ fr,h,st,hold _ y,z⟩
theorem St.ahead{F:dG}{H:F8}{w:World}(s:St F H w)(n:Nat):St F H (Sort.ahead w n):=by
 obtain⟨a1,a2,a3,fr,h,st,y,z⟩:=s;exact⟨a1,⟨a2.1,Nat.le_trans a2.2 (Nat.le_add_right _ _)⟩,a3,fr,h,st,y,z⟩
theorem FP (cs ts sp:FJ)(hl:ts.length=cs.length):Sort.putCells (id:Value->Value) 0 ts.toArray (cs++sp).toArray=(ts++sp).toArray:=by
 apply agR;intro k;unfold Sort.putCells;simp only[Array.getElem?_mapIdx,akg,akw,abH,Nat.zero_le,true_and,Nat.sub_zero];by_cases hk:k<ts.length
 ·rw[agC (by omega),agC hk,aac (by omega),aac hk]
  simp only[Option.map_some,hk,if_true];have:ts.toArray[k]! =ts[k]:=by rw[getElem!_pos _ k (by simpa using hk)];simp
  rw[this];rfl
 rw[ajZ (by omega),ajZ (by omega),hl];have:(λx:Value=>if k<ts.length then id ts.toArray[k]! else x)=id:=by funext x;simp[hk]
 cases hs:sp[k-cs.length]? with
 |none=>rfl
 |some v=>
  have wy:¬k<cs.length:=by omega
  simp[hk,wy]
theorem St.putRow{F:dG}{R:F8}{w:World}{b e:Nat}{cs ts sp:FJ}(hl:ts.length=cs.length)(s:St F (ag b e (cs++sp)::R) w):St F (ag b e (ts++sp)::R) (Sort.putRow (id:Value->Value) w b 0 ts.toArray):=by
 obtain⟨hh,⟨lo,hi,hf,hb⟩,hle⟩:=s.get;have hw:w.heap[b]?=some (.cells (cs++sp).toArray e (lo,hi)):=hle _ _ hb;have cJ:=(agv.1 hw).1;have key:Sort.putRow (id:Value->Value) w b 0 ts.toArray={w with heap:=w.heap.setIfInBounds b (.cells (ts++sp).toArray e (lo,hi))}:=by
  unfold Sort.putRow Sort.mapBlock
  congr 1
  apply agR;intro x;rw[Array.getElem?_modify,Array.getElem?_setIfInBounds];by_cases hx:b=x
  ·subst hx
   rw[if_pos rfl,if_pos rfl,if_pos cJ,hw];simp only[Option.map_some,Sort.onCells,FP cs ts sp hl]
  rw[if_neg hx,if_neg hx]
 rw[key];exact s.W8 (λh p=>by obtain⟨_,_,_,q⟩:=p;exact⟨_,q⟩) (.mk lo hi (by rw[aby]at hf⊢;omega) (by simp))
theorem wN:pT:=by
 intro a cap L hcap zE hlen F w _ s;obtain⟨a1,a2,a3,fr,h,⟨h1,h2,d,l1,l2,⟨r1,r2,r3⟩,st⟩,y,z⟩:=s;have hE:∀M:List En,(M.flatMap eN).length=M.length*3:=Wh.ed;rcases r3 with⟨rfl,rfl⟩|⟨b,sp,rfl,r4,r5⟩
 ·have hL:L= []:=abO (by omega)
  subst hL;refine(AnyF.slices_SortFunc_none Tryz.ahw none 0 _ w).mono ?_;rintro e w' ⟨rfl,rfl⟩;refine⟨_,_,rfl,⟨rfl,rfl⟩,a1,a2,a3,fr,h,⟨h1,h2,d,l1,l2, ?_,st⟩,y,z⟩;have:iw []= []:=abO (eW []).length_eq;rw[this];exact⟨r1,r2, .inl ⟨rfl,rfl⟩⟩
 have s1:St F [ag b 202 (L.flatMap eN++sp)] w:=⟨a1,a2,a3,fr,h,⟨h1,h2,d,l1,l2,r5,st⟩,y,z⟩;have hH:Sort.HoldsK eN 3 w b 0 L.toArray:=by
  unfold Sort.HoldsK;rw[Fm];intro j hj;have hj':j<(L.flatMap eN).length:=by simpa using hj
  have ace:(L.flatMap eN++sp)[j]?=some ((L.flatMap eN)[j]):=by rw[agC hj',aac hj']
  have e1:(L.flatMap eN).toArray[j]! =(L.flatMap eN)[j]:=by rw[getElem!_pos _ j (by simpa using hj')];simp
  rw[abH,e1];exact⟨lW (l1.trans y) (fx r5 ace),tP r5 (by rw[aby];omega) (l1.trans y)⟩
 have hblk:b<w.heap.size:=by
  obtain⟨lo,hi,_,hb⟩:=r5;exact(agv.1 ((l1.trans y) _ _ hb)).1
 have eg:∀args w,(callFunc 116 args).run Tryz.prog w= .ok (.enter 116 args) w:=enters_of func116 (by kernel_rfl) rfl;have hcmp:CmpLays Tryz.prog 116 #[] eN 3 GF b 0 L.toArray.size w:=λm os dk hdk x y=>by
  have:=UW (tQ x y) (sortWorldK eN 3 w b 0 m dk os);exact this
 have con:=AnyQ.slices_SortFunc Tryz.ahw 3 Tryz.isAgg202 Tryz.sizeOf202 eN (λx=>rfl) (λx v hv=>by
  unfold eN at hv;simp only[List.mem_cons,List.not_mem_nil,or_false]at hv;rcases hv with rfl|rfl|rfl<;>rfl) GF aip 116 #[] b 0 cap L.toArray w eg hcmp hH hblk (by simp;omega)
 have con2:Calls Tryz.prog 115 #[.slice (some ⟨b,0,none⟩) L.length cap, .func (.func 116) #[] #[]] w _:=con;refine con2.mono ?_;rintro e w' ⟨rfl,d',n,os,⟨p1,p2,p3⟩,p4,rfl⟩;have hs:d'.size=L.length:=by rw[p1];simp
 have hp:d'.toList.Perm L:=by
  have q1:(d'.extract 0 L.toArray.size).toList=d'.toList:=by rw[<-p1];simp
  have q2:(L.toArray.extract 0 L.toArray.size).toList=L:=by simp
  rw[q1,q2]at p3;exact p3
 have hw:d'.toList=iw L:=JI hp zE (by
  rw[List.pairwise_iff_getElem];intro i j hi hj Z7;have xz:i<d'.size:=by simpa using hi
  have hj':j<d'.size:=by simpa using hj
  have:=p4 i j (Nat.zero_le _) Z7 (by rw[<-p1];exact hj');rw[getElem!_pos d' i xz,getElem!_pos d' j hj']at this;unfold ltOf at this;rw[decide_eq_false_iff_not,oq]at this;simpa using this)
 have hd:d'=(iw L).toArray:=by rw[<-hw]
 subst hd;have hsl:(iw L).length=L.length:=(eW L).length_eq;refine⟨_,_,rfl,⟨rfl,rfl⟩, ?_⟩;have s2:=St.putRow (ts:=(iw L).flatMap eN) (by rw[hE,hE,hsl]) (St.ahead s1 n);have s3:=St.grow s2 os;have ew:sortWorldK eN 3 w b 0 n (iw L).toArray os=Sort.grow (Sort.putRow id (Sort.ahead w n) b 0 ((iw L).flatMap eN).toArray) os:=by
  unfold sortWorldK Sort.putRowK;rw[Fm]
 rw[ew];refine s3.sub λk sk=>aZ (λ_ p=>⟨?_,r2, .inr ⟨b,sp,rfl, ?_,p⟩⟩) sk
 ·rw[hE,hsl,<-hE];exact r1
 rw[hE,hsl,<-hE];exact r4
end Go.Proofs.YtcbcjolpdljbiaaGreat
