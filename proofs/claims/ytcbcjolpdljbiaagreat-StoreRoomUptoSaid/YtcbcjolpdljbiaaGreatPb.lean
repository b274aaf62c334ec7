/- Part Pb of the proof. -/
import Derived.Test.YtcbcjolpdljbiaaGreatPa
import Derived.Test.YtcbcjolpdljbiaaGreatProg
set_option maxRecDepth 100000
namespace Go.Proofs.YtcbcjolpdljbiaaGreat.T
open Tryz renaming prog -> FY
open Go Go.dQ
theorem mix:FY.follows .mixedOrders=true:=by kernel_rfl
theorem u_3:FY.underlying 3=some (.int .i64):=by kernel_rfl
theorem X0:(FY.underlying 3).isSome=true:=by kernel_rfl
theorem bz:de FY 3=true:=by kernel_rfl
theorem adg:bW FY 3=some [vA]:=by kernel_rfl
theorem u_4:FY.underlying 4=some .bool:=by kernel_rfl
theorem gq:de FY 4=true:=by kernel_rfl
theorem zc_4:bW FY 4=some [(.bool false)]:=by kernel_rfl
theorem tL:FY.underlying 5=some (.int .u8):=by kernel_rfl
theorem adi:(FY.underlying 5).isSome=true:=by kernel_rfl
theorem rU:de FY 5=true:=by kernel_rfl
theorem sE:FY.underlying 9=some .string:=by kernel_rfl
theorem Rj:cO FY 23=some 4:=by kernel_rfl
theorem abx:bW FY 23=some [vA,vA,vA,vA]:=by kernel_rfl
theorem Ec:ed FY 24=some (44,12):=by kernel_rfl
theorem qC:cO FY 29=some 7:=by kernel_rfl
theorem AG:jt FY 29=some [(0,1),(1,1),(2,1),(3,1),(4,1),(5,1),(6,1)]:=by kernel_rfl
theorem kA:bW FY 29=some [vA,vA,vA,vA,vA,vA,vA]:=by kernel_rfl
theorem QW:de FY 30=true:=by kernel_rfl
theorem lp:ed FY 30=some (3,1):=by kernel_rfl
theorem gk:vg FY 30=some (3,1,8,[vA]):=by kernel_rfl
theorem qy:mY FY 30=true:=by kernel_rfl
theorem QE:FY.underlying 35=some (.int .u64):=by kernel_rfl
theorem Jy:(FY.underlying 35).isSome=true:=by kernel_rfl
theorem si:de FY 35=true:=by kernel_rfl
theorem pI:ed FY 38=some (9,1):=by kernel_rfl
theorem JR:vg FY 38=some (9,1,16,[(.string {data:= #[]})]):=by kernel_rfl
theorem aj4:mY FY 38=true:=by kernel_rfl
theorem mK:FY.underlying 39=some (.slice 5):=by kernel_rfl
theorem Ee:de FY 39=true:=by kernel_rfl
theorem fx:ed FY 39=some (5,1):=by kernel_rfl
theorem iT:vg FY 39=some (5,1,1,[(.int .u8 0)]):=by kernel_rfl
theorem qx:mY FY 39=true:=by kernel_rfl
theorem JS:cO FY 42=some 11:=by kernel_rfl
theorem QP:bW FY 42=some [vA,(.slice none 0 0),(.int .u64 0),vA,(.int .u64 0),(.int .u64 0),(.slice none 0 0),(.bool false),(.bool false),(.slice none 0 0),(.string {data:= #[]})]:=by kernel_rfl
theorem acI:vg FY 49=some (56,9,80,[(.string {data:= #[]}),(.slice none 0 0),(.int .u64 0),vA,(.int .u64 0),vA,(.bool false),(.bool false),(.bool false)]):=by kernel_rfl
theorem aj3:mY FY 49=true:=by kernel_rfl
theorem ey:cO FY 52=some 5:=by kernel_rfl
theorem nz:bW FY 52=some [vA,(.slice none 0 0),(.int .u64 0),(.string {data:= #[]}),(.slice none 0 0)]:=by kernel_rfl
theorem nG:cO FY 56=some 9:=by kernel_rfl
theorem wk:bW FY 56=some [(.string {data:= #[]}),(.slice none 0 0),(.int .u64 0),vA,(.int .u64 0),vA,(.bool false),(.bool false),(.bool false)]:=by kernel_rfl
theorem AO:cO FY 62=some 7:=by kernel_rfl
theorem QO:bW FY 62=some [vA,vA,vA,vA,vA,vA,vA]:=by kernel_rfl
theorem Ri:cO FY 79=some 3:=by kernel_rfl
theorem QN:bW FY 79=some [(.slice none 0 0),(.slice none 0 0),vA]:=by kernel_rfl
theorem QV:de FY 85=true:=by kernel_rfl
theorem tU:de FY 86=true:=by kernel_rfl
theorem Jz:de FY 88=true:=by kernel_rfl
theorem QU:de FY 89=true:=by kernel_rfl
theorem Ed:de FY 90=true:=by kernel_rfl
theorem AI:de FY 91=true:=by kernel_rfl
theorem abE:de FY 92=true:=by kernel_rfl
theorem Ig:cO FY 102=some 5:=by kernel_rfl
theorem Hd:bW FY 102=some [vA,(.slice none 0 0),(.int .u64 0),(.string {data:= #[]}),(.slice none 0 0)]:=by kernel_rfl
theorem Hf:(FY.underlying 104).isSome=true:=by kernel_rfl
theorem bJ:de FY 104=true:=by kernel_rfl
theorem Hc:bW FY 104=some [(.int .u64 0)]:=by kernel_rfl
theorem Hk:de FY 107=true:=by kernel_rfl
theorem adY:bW FY 119=some [vA,vA,vA,vA]:=by kernel_rfl
theorem ahb:BQ FY 119=some (4,3,1):=by kernel_rfl
theorem RD:ed FY 134=some (104,1):=by kernel_rfl
theorem TG:vg FY 134=some (104,1,8,[(.int .u64 0)]):=by kernel_rfl
theorem ae4:mY FY 134=true:=by kernel_rfl
theorem QR:FY.underlying 149=some (.int .u32):=by kernel_rfl
theorem He:(FY.underlying 149).isSome=true:=by kernel_rfl
theorem qG:de FY 149=true:=by kernel_rfl
theorem Cg:de FY 152=true:=by kernel_rfl
theorem CR:vg FY 152=some (149,1,4,[(.int .u32 0)]):=by kernel_rfl
theorem eB:cO FY 159=some 8:=by kernel_rfl
theorem fF:jt FY 159=some [(0,1),(1,1),(2,1),(3,1),(4,1),(5,1),(6,1),(7,1)]:=by kernel_rfl
theorem bZ:bW FY 159=some [(.slice none 0 0),(.slice none 0 0),(.int .u64 0),vA,vA,(.int .u64 0),vA,vA]:=by kernel_rfl
theorem TF:vg FY 176=some (227,7,80,[(.bool false),(.bool false),vA,(.slice none 0 0),(.slice none 0 0),vA,(.map none)]):=by kernel_rfl
theorem TE:vg FY 177=some (196,4,48,[(.slice none 0 0),vA,vA,vA]):=by kernel_rfl
theorem RA:jt FY 179=some [(0,7),(7,1),(8,1),(9,1),(10,1),(11,1)]:=by kernel_rfl
theorem Rq:bW FY 179=some [vA,vA,vA,vA,vA,vA,vA,(.pointer none),(.slice none 0 0),(.slice none 0 0),(.slice none 0 0),vA]:=by kernel_rfl
theorem ahc:vg FY 180=some (333,9,72,[(.int .u64 0),(.int .u64 0),vA,(.int .u64 0),(.int .u64 0),vA,(.int .u64 0),(.int .u64 0),vA]):=by kernel_rfl
theorem iN:ed FY 197=some (202,3):=by kernel_rfl
theorem CQ:vg FY 197=some (202,3,24,[(.int .u64 0),vA,(.int .u64 0)]):=by kernel_rfl
theorem RN:mY FY 197=true:=by kernel_rfl
theorem vE:cO FY 202=some 3:=by kernel_rfl
theorem yj:bW FY 202=some [(.int .u64 0),vA,(.int .u64 0)]:=by kernel_rfl
theorem s9:cO FY 218=some 4:=by kernel_rfl
theorem Rp:bW FY 218=some [vA,vA,vA,(.bool false)]:=by kernel_rfl
theorem Cf:de FY 224=true:=by kernel_rfl
theorem Ib:vg FY 224=some (4,1,1,[(.bool false)]):=by kernel_rfl
theorem ahg:cO FY 227=some 7:=by kernel_rfl
theorem Ie:cO FY 231=some 4:=by kernel_rfl
theorem gZ:bW FY 231=some [(.pointer none),vA,vA,vA]:=by kernel_rfl
theorem adN:bW FY 261=some [(.int .u8 0),(.int .u8 0),(.int .u8 0),(.int .u8 0),(.int .u8 0),(.int .u8 0),(.int .u8 0),(.int .u8 0),(.int .u8 0),(.int .u8 0),(.int .u8 0),(.int .u8 0),(.int .u8 0),(.int .u8 0),(.int .u8 0),(.int .u8 0),(.int .u8 0),(.int .u8 0),(.int .u8 0),(.int .u8 0)]:=by kernel_rfl
theorem TD:BQ FY 261=some (20,5,1):=by kernel_rfl
theorem Rn:bW FY 275=some [vA, .nilFunc]:=by kernel_rfl
theorem TJ:cO FY 276=some 6:=by kernel_rfl
theorem Rl:bW FY 276=some [vA, .nilFunc,vA, .nilFunc,vA, .nilFunc]:=by kernel_rfl
theorem aha:BQ FY 276=some (3,275,2):=by kernel_rfl
theorem abA:FY.underlying 295=some (.pointer 312):=by kernel_rfl
theorem ag9:BQ FY 333=some (3,312,3):=by kernel_rfl
theorem adM:bW FY 335=some [vA,vA,vA]:=by kernel_rfl
theorem ag8:BQ FY 335=some (3,3,1):=by kernel_rfl
theorem FD:ao FY 23 3=some 3:=by kernel_rfl
theorem Wo:ao FY 26 1=some 1:=by kernel_rfl
theorem Wn:ao FY 26 2=some 2:=by kernel_rfl
theorem Wk:ao FY 26 4=some 4:=by kernel_rfl
theorem Wj:ao FY 26 5=some 5:=by kernel_rfl
theorem yW:ao FY 29 1=some 1:=by kernel_rfl
theorem FC:ao FY 42 2=some 2:=by kernel_rfl
theorem FB:ao FY 42 3=some 3:=by kernel_rfl
theorem FA:ao FY 42 6=some 6:=by kernel_rfl
theorem V4:ao FY 44 0=some 0:=by kernel_rfl
theorem yV:ao FY 44 1=some 11:=by kernel_rfl
theorem jL:ao FY 62 6=some 6:=by kernel_rfl
theorem Fz:ao FY 94 1=some 1:=by kernel_rfl
theorem Fy:ao FY 94 4=some 4:=by kernel_rfl
theorem yU:ao FY 94 5=some 5:=by kernel_rfl
theorem Fx:ao FY 94 6=some 6:=by kernel_rfl
theorem nN:ao FY 96 0=some 0:=by kernel_rfl
theorem Fw:ao FY 96 2=some 15:=by kernel_rfl
theorem iW:ao FY 96 5=some 21:=by kernel_rfl
theorem Bw:ao FY 184 1=some 1:=by kernel_rfl
theorem Bv:ao FY 202 1=some 1:=by kernel_rfl
theorem vW:ao FY 227 3=some 3:=by kernel_rfl
theorem rG:ao FY 227 4=some 4:=by kernel_rfl
theorem Aq{n:Nat}(h:Nat.ble n 6=false:=by rfl)(g:Nat.blt n 278=true:=by rfl):aC FY n=true:=by
 have:=List.all_eq_true.1 (show((List.range 278).all λm=>Nat.ble m 6||aC FY m)=true by kernel_rfl) n (List.mem_range.2 (Nat.blt_eq.mp g));rw[h,Bool.false_or]at this;exact this
end Go.Proofs.YtcbcjolpdljbiaaGreat.T
