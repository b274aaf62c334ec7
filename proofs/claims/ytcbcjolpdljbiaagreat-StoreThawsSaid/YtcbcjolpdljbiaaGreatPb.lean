/- Part Pb of the proof. -/
import Derived.Test.YtcbcjolpdljbiaaGreatPa
import Derived.Test.YtcbcjolpdljbiaaGreatProg
set_option maxRecDepth 100000
namespace Go.Proofs.YtcbcjolpdljbiaaGreat.T
open Tryz renaming prog -> FM
open Go Go.dC
theorem mix:FM.follows .mixedOrders=true:=by kernel_rfl
theorem u_3:FM.underlying 3=some (.int .i64):=by kernel_rfl
theorem Lv:(FM.underlying 3).isSome=true:=by kernel_rfl
theorem bj:cY FM 3=true:=by kernel_rfl
theorem ab2:bS FM 3=some [vN]:=by kernel_rfl
theorem u_4:FM.underlying 4=some .bool:=by kernel_rfl
theorem gg:cY FM 4=true:=by kernel_rfl
theorem zc_4:bS FM 4=some [(.bool false)]:=by kernel_rfl
theorem sE:FM.underlying 5=some (.int .u8):=by kernel_rfl
theorem ab4:(FM.underlying 5).isSome=true:=by kernel_rfl
theorem rk:cY FM 5=true:=by kernel_rfl
theorem wu:FM.underlying 9=some .string:=by kernel_rfl
theorem QN:cP FM 23=some 4:=by kernel_rfl
theorem Qf:bS FM 23=some [vN,vN,vN,vN]:=by kernel_rfl
theorem QM:cP FM 29=some 7:=by kernel_rfl
theorem Qe:bS FM 29=some [vN,vN,vN,vN,vN,vN,vN]:=by kernel_rfl
theorem Qq:cY FM 30=true:=by kernel_rfl
theorem rA:dV FM 30=some (3,1):=by kernel_rfl
theorem jI:uF FM 30=some (3,1,8,[vN]):=by kernel_rfl
theorem xS:nZ FM 30=true:=by kernel_rfl
theorem GC:FM.underlying 35=some (.int .u64):=by kernel_rfl
theorem Jd:(FM.underlying 35).isSome=true:=by kernel_rfl
theorem rB:cY FM 35=true:=by kernel_rfl
theorem Al:dV FM 38=some (9,1):=by kernel_rfl
theorem xY:uF FM 38=some (9,1,16,[(.string {data:= #[]})]):=by kernel_rfl
theorem me:FM.underlying 39=some (.slice 5):=by kernel_rfl
theorem D6:cY FM 39=true:=by kernel_rfl
theorem fS:dV FM 39=some (5,1):=by kernel_rfl
theorem iJ:uF FM 39=some (5,1,1,[(.int .u8 0)]):=by kernel_rfl
theorem rD:nZ FM 39=true:=by kernel_rfl
theorem abq:uF FM 49=some (56,9,80,[(.string {data:= #[]}),(.slice none 0 0),(.int .u64 0),vN,(.int .u64 0),vN,(.bool false),(.bool false),(.bool false)]):=by kernel_rfl
theorem aiJ:nZ FM 49=true:=by kernel_rfl
theorem ez:cP FM 52=some 5:=by kernel_rfl
theorem o0:bS FM 52=some [vN,(.slice none 0 0),(.int .u64 0),(.string {data:= #[]}),(.slice none 0 0)]:=by kernel_rfl
theorem pS:cP FM 56=some 9:=by kernel_rfl
theorem Aj:bS FM 56=some [(.string {data:= #[]}),(.slice none 0 0),(.int .u64 0),vN,(.int .u64 0),vN,(.bool false),(.bool false),(.bool false)]:=by kernel_rfl
theorem Eo:cP FM 62=some 7:=by kernel_rfl
theorem aap:bS FM 62=some [vN,vN,vN,vN,vN,vN,vN]:=by kernel_rfl
theorem Qo:cY FM 85=true:=by kernel_rfl
theorem sU:cY FM 86=true:=by kernel_rfl
theorem Je:cY FM 88=true:=by kernel_rfl
theorem Qn:cY FM 89=true:=by kernel_rfl
theorem D5:cY FM 90=true:=by kernel_rfl
theorem An:cY FM 91=true:=by kernel_rfl
theorem aav:cY FM 92=true:=by kernel_rfl
theorem HU:cP FM 102=some 5:=by kernel_rfl
theorem GR:bS FM 102=some [vN,(.slice none 0 0),(.int .u64 0),(.string {data:= #[]}),(.slice none 0 0)]:=by kernel_rfl
theorem GU:(FM.underlying 104).isSome=true:=by kernel_rfl
theorem bD:cY FM 104=true:=by kernel_rfl
theorem GQ:bS FM 104=some [(.int .u64 0)]:=by kernel_rfl
theorem GW:cY FM 107=true:=by kernel_rfl
theorem acM:bS FM 119=some [vN,vN,vN,vN]:=by kernel_rfl
theorem afS:Bv FM 119=some (4,3,1):=by kernel_rfl
theorem Q4:dV FM 134=some (104,1):=by kernel_rfl
theorem SV:uF FM 134=some (104,1,8,[(.int .u64 0)]):=by kernel_rfl
theorem adN:nZ FM 134=true:=by kernel_rfl
theorem Qk:FM.underlying 149=some (.int .u32):=by kernel_rfl
theorem GS:(FM.underlying 149).isSome=true:=by kernel_rfl
theorem pX:cY FM 149=true:=by kernel_rfl
theorem BS:cY FM 152=true:=by kernel_rfl
theorem Cy:uF FM 152=some (149,1,4,[(.int .u32 0)]):=by kernel_rfl
theorem dX:cP FM 159=some 8:=by kernel_rfl
theorem fD:jj FM 159=some [(0,1),(1,1),(2,1),(3,1),(4,1),(5,1),(6,1),(7,1)]:=by kernel_rfl
theorem bT:bS FM 159=some [(.slice none 0 0),(.slice none 0 0),(.int .u64 0),vN,vN,(.int .u64 0),vN,vN]:=by kernel_rfl
theorem SU:uF FM 176=some (227,7,80,[(.bool false),(.bool false),vN,(.slice none 0 0),(.slice none 0 0),vN,(.map none)]):=by kernel_rfl
theorem SS:uF FM 177=some (196,4,48,[(.slice none 0 0),vN,vN,vN]):=by kernel_rfl
theorem Q0:jj FM 179=some [(0,7),(7,1),(8,1),(9,1),(10,1),(11,1)]:=by kernel_rfl
theorem QS:bS FM 179=some [vN,vN,vN,vN,vN,vN,vN,(.pointer none),(.slice none 0 0),(.slice none 0 0),(.slice none 0 0),vN]:=by kernel_rfl
theorem afT:uF FM 180=some (333,9,72,[(.int .u64 0),(.int .u64 0),vN,(.int .u64 0),(.int .u64 0),vN,(.int .u64 0),(.int .u64 0),vN]):=by kernel_rfl
theorem iB:dV FM 197=some (202,3):=by kernel_rfl
theorem Cx:uF FM 197=some (202,3,24,[(.int .u64 0),vN,(.int .u64 0)]):=by kernel_rfl
theorem Rb:nZ FM 197=true:=by kernel_rfl
theorem uX:cP FM 202=some 3:=by kernel_rfl
theorem xZ:bS FM 202=some [(.int .u64 0),vN,(.int .u64 0)]:=by kernel_rfl
theorem r9:cP FM 218=some 4:=by kernel_rfl
theorem QR:bS FM 218=some [vN,vN,vN,(.bool false)]:=by kernel_rfl
theorem BR:cY FM 224=true:=by kernel_rfl
theorem HR:uF FM 224=some (4,1,1,[(.bool false)]):=by kernel_rfl
theorem afW:cP FM 227=some 7:=by kernel_rfl
theorem HT:cP FM 231=some 4:=by kernel_rfl
theorem gL:bS FM 231=some [(.pointer none),vN,vN,vN]:=by kernel_rfl
theorem acB:bS FM 261=some [(.int .u8 0),(.int .u8 0),(.int .u8 0),(.int .u8 0),(.int .u8 0),(.int .u8 0),(.int .u8 0),(.int .u8 0),(.int .u8 0),(.int .u8 0),(.int .u8 0),(.int .u8 0),(.int .u8 0),(.int .u8 0),(.int .u8 0),(.int .u8 0),(.int .u8 0),(.int .u8 0),(.int .u8 0),(.int .u8 0)]:=by kernel_rfl
theorem SR:Bv FM 261=some (20,5,1):=by kernel_rfl
theorem QQ:bS FM 275=some [vN, .nilFunc]:=by kernel_rfl
theorem SZ:cP FM 276=some 6:=by kernel_rfl
theorem QP:bS FM 276=some [vN, .nilFunc,vN, .nilFunc,vN, .nilFunc]:=by kernel_rfl
theorem afR:Bv FM 276=some (3,275,2):=by kernel_rfl
theorem aar:FM.underlying 295=some (.pointer 312):=by kernel_rfl
theorem afQ:Bv FM 333=some (3,312,3):=by kernel_rfl
theorem acz:bS FM 335=some [vN,vN,vN]:=by kernel_rfl
theorem afP:Bv FM 335=some (3,3,1):=by kernel_rfl
theorem Fl:aq FM 23 3=some 3:=by kernel_rfl
theorem yO:aq FM 29 1=some 1:=by kernel_rfl
theorem Fk:aq FM 42 2=some 2:=by kernel_rfl
theorem Fj:aq FM 42 3=some 3:=by kernel_rfl
theorem Fi:aq FM 42 6=some 6:=by kernel_rfl
theorem jA:aq FM 62 6=some 6:=by kernel_rfl
theorem yN:aq FM 69 2=some 2:=by kernel_rfl
theorem Fh:aq FM 94 1=some 1:=by kernel_rfl
theorem Fg:aq FM 94 4=some 4:=by kernel_rfl
theorem yM:aq FM 94 5=some 5:=by kernel_rfl
theorem Ff:aq FM 94 6=some 6:=by kernel_rfl
theorem nu:aq FM 96 0=some 0:=by kernel_rfl
theorem Fe:aq FM 96 2=some 15:=by kernel_rfl
theorem iO:aq FM 96 5=some 21:=by kernel_rfl
theorem Be:aq FM 184 1=some 1:=by kernel_rfl
theorem Bc:aq FM 202 1=some 1:=by kernel_rfl
theorem vu:aq FM 227 3=some 3:=by kernel_rfl
theorem qS:aq FM 227 4=some 4:=by kernel_rfl
theorem Aa{n:Nat}(h:Nat.ble n 8=false:=by rfl)(g:Nat.blt n 278=true:=by rfl):ay FM n=true:=by
 have:=List.all_eq_true.1 (show((List.range 278).all λm=>Nat.ble m 8||ay FM m)=true by kernel_rfl) n (List.mem_range.2 (Nat.blt_eq.mp g));rw[h,Bool.false_or]at this;exact this
end Go.Proofs.YtcbcjolpdljbiaaGreat.T
