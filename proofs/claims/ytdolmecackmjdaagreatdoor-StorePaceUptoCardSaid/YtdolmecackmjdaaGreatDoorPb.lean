/- Part Pb of the proof. -/
import Derived.Test.YtdolmecackmjdaaGreatDoorPa
import Derived.KernelRfl
import Derived.Test.YtdolmecackmjdaaGreatDoorProg
set_option maxRecDepth 100000
namespace Go.Proofs.YtdolmecackmjdaaGreatDoor.T
open Go Go.cV
theorem mix:Tryz.prog.follows .mixedOrders=true:=by kernel_rfl
theorem Z4:Tryz.prog.underlying 3=some (.int .i64):=by kernel_rfl
theorem Rc:(Tryz.prog.underlying 3).isSome=true:=by kernel_rfl
theorem dD:cN Tryz.prog 3=true:=by kernel_rfl
theorem aaK:bP Tryz.prog 3=some [(.int .i64 0)]:=by kernel_rfl
theorem Z3:Tryz.prog.underlying 4=some .bool:=by kernel_rfl
theorem aaR:cN Tryz.prog 4=true:=by kernel_rfl
theorem oI:Tryz.prog.underlying 5=some (.int .u8):=by kernel_rfl
theorem V8:(Tryz.prog.underlying 5).isSome=true:=by kernel_rfl
theorem zX:cN Tryz.prog 5=true:=by kernel_rfl
theorem rY:Tryz.prog.underlying 9=some .string:=by kernel_rfl
theorem sc_9:cN Tryz.prog 9=true:=by kernel_rfl
theorem Aq:cy Tryz.prog 23=some 7:=by kernel_rfl
theorem abN:ib Tryz.prog 23=some [(0,1),(1,1),(2,1),(3,1),(4,1),(5,1),(6,1)]:=by kernel_rfl
theorem Kv:bP Tryz.prog 23=some [(.int .i64 0),(.int .i64 0),(.int .i64 0),(.int .i64 0),(.int .i64 0),(.int .i64 0),(.int .i64 0)]:=by kernel_rfl
theorem K5:cy Tryz.prog 25=some 4:=by kernel_rfl
theorem abM:ib Tryz.prog 25=some [(0,1),(1,1),(2,1),(3,1)]:=by kernel_rfl
theorem UI:bP Tryz.prog 25=some [(.int .i64 0),(.int .i64 0),(.int .i64 0),(.int .i64 0)]:=by kernel_rfl
theorem u_28:Tryz.prog.underlying 28=some (.pointer 111):=by kernel_rfl
theorem abW:cN Tryz.prog 37=true:=by kernel_rfl
theorem KA:cE Tryz.prog 37=some (49,9):=by kernel_rfl
theorem VH:qX Tryz.prog 37=some (49,9,80,[(.string {data:= #[]}),(.slice none 0 0),(.int .u64 0),(.int .i64 0),(.int .u64 0),(.int .i64 0),(.bool false),(.bool false),(.bool false)]):=by kernel_rfl
theorem ab5:kJ Tryz.prog 37=true:=by kernel_rfl
theorem Km:Tryz.prog.underlying 38=some (.int .u64):=by kernel_rfl
theorem EO:(Tryz.prog.underlying 38).isSome=true:=by kernel_rfl
theorem ot:cN Tryz.prog 38=true:=by kernel_rfl
theorem abV:cN Tryz.prog 39=true:=by kernel_rfl
theorem abO:cE Tryz.prog 39=some (188,2):=by kernel_rfl
theorem cU:cy Tryz.prog 41=some 5:=by kernel_rfl
theorem abL:ib Tryz.prog 41=some [(0,1),(1,1),(2,1),(3,1),(4,1)]:=by kernel_rfl
theorem kj:bP Tryz.prog 41=some [(.int .i64 0),(.slice none 0 0),(.int .u64 0),(.string {data:= #[]}),(.slice none 0 0)]:=by kernel_rfl
theorem abU:cN Tryz.prog 43=true:=by kernel_rfl
theorem qa:cE Tryz.prog 43=some (9,1):=by kernel_rfl
theorem E5:qX Tryz.prog 43=some (9,1,16,[(.string {data:= #[]})]):=by kernel_rfl
theorem ab4:kJ Tryz.prog 43=true:=by kernel_rfl
theorem j6:Tryz.prog.underlying 44=some (.slice 5):=by kernel_rfl
theorem Ac:cN Tryz.prog 44=true:=by kernel_rfl
theorem gQ:cE Tryz.prog 44=some (5,1):=by kernel_rfl
theorem iL:qX Tryz.prog 44=some (5,1,1,[(.int .u8 0)]):=by kernel_rfl
theorem qc:kJ Tryz.prog 44=true:=by kernel_rfl
theorem KZ:cy Tryz.prog 47=some 11:=by kernel_rfl
theorem abK:ib Tryz.prog 47=some [(0,1),(1,1),(2,1),(3,1),(4,1),(5,1),(6,1),(7,1),(8,1),(9,1),(10,1)]:=by kernel_rfl
theorem UH:bP Tryz.prog 47=some [(.int .i64 0),(.slice none 0 0),(.int .u64 0),(.int .i64 0),(.int .u64 0),(.int .u64 0),(.slice none 0 0),(.bool false),(.bool false),(.slice none 0 0),(.string {data:= #[]})]:=by kernel_rfl
theorem lh:cy Tryz.prog 49=some 9:=by kernel_rfl
theorem abJ:ib Tryz.prog 49=some [(0,1),(1,1),(2,1),(3,1),(4,1),(5,1),(6,1),(7,1),(8,1)]:=by kernel_rfl
theorem r8:bP Tryz.prog 49=some [(.string {data:= #[]}),(.slice none 0 0),(.int .u64 0),(.int .i64 0),(.int .u64 0),(.int .i64 0),(.bool false),(.bool false),(.bool false)]:=by kernel_rfl
theorem oq:cE Tryz.prog 53=some (63,12):=by kernel_rfl
theorem KC:cN Tryz.prog 55=true:=by kernel_rfl
theorem se:cE Tryz.prog 55=some (3,1):=by kernel_rfl
theorem jg:qX Tryz.prog 55=some (3,1,8,[(.int .i64 0)]):=by kernel_rfl
theorem wZ:kJ Tryz.prog 55=true:=by kernel_rfl
theorem u_79:Tryz.prog.underlying 79=some (.pointer 136):=by kernel_rfl
theorem KB:cN Tryz.prog 79=true:=by kernel_rfl
theorem u_82:Tryz.prog.underlying 82=some (.pointer 139):=by kernel_rfl
theorem abT:cN Tryz.prog 82=true:=by kernel_rfl
theorem abS:cN Tryz.prog 85=true:=by kernel_rfl
theorem abp:bP Tryz.prog 88=some [(.int .i64 0),(.int .i64 0),(.int .i64 0),(.int .i64 0)]:=by kernel_rfl
theorem ac8:zS Tryz.prog 88=some (4,3,1):=by kernel_rfl
theorem abR:cN Tryz.prog 89=true:=by kernel_rfl
theorem abI:ib Tryz.prog 94=some [(0,1),(1,1),(2,1),(3,1)]:=by kernel_rfl
theorem abo:bP Tryz.prog 94=some [(.int .i64 0),(.int .u64 0),(.int .u64 0),(.int .i64 0)]:=by kernel_rfl
theorem M5:cy Tryz.prog 100=some 7:=by kernel_rfl
theorem Xb:ib Tryz.prog 100=some [(0,1),(1,1),(2,1),(3,1),(4,1),(5,1),(6,1)]:=by kernel_rfl
theorem WJ:bP Tryz.prog 100=some [(.int .i64 0),(.int .i64 0),(.int .i64 0),(.int .i64 0),(.int .i64 0),(.int .i64 0),(.int .i64 0)]:=by kernel_rfl
theorem lU:cN Tryz.prog 104=true:=by kernel_rfl
theorem abE:Tryz.prog.underlying 105=some (.pointer 197):=by kernel_rfl
theorem CX:cN Tryz.prog 105=true:=by kernel_rfl
theorem uK:cN Tryz.prog 106=true:=by kernel_rfl
theorem q9:cN Tryz.prog 107=true:=by kernel_rfl
theorem Xa:ib Tryz.prog 109=some [(0,1),(1,1),(2,1),(3,1),(4,1),(5,1),(6,1),(7,1)]:=by kernel_rfl
theorem WI:bP Tryz.prog 109=some [(.pointer none),(.pointer none),(.pointer none),(.pointer none),(.pointer none),(.pointer none),(.pointer none),(.pointer none)]:=by kernel_rfl
theorem W9:ib Tryz.prog 111=some [(0,8),(8,7),(15,4),(19,1),(20,1),(21,7),(28,1)]:=by kernel_rfl
theorem WH:bP Tryz.prog 111=some [(.pointer none),(.pointer none),(.pointer none),(.pointer none),(.pointer none),(.pointer none),(.pointer none),(.pointer none),(.int .i64 0),(.int .i64 0),(.int .i64 0),(.int .i64 0),(.int .i64 0),(.int .i64 0),(.int .i64 0),(.int .i64 0),(.int .i64 0),(.int .i64 0),(.int .i64 0),(.int .u64 0),(.int .i64 0),(.int .i64 0),(.int .i64 0),(.int .i64 0),(.int .i64 0),(.int .i64 0),(.int .i64 0),(.int .i64 0),(.slice none 0 0)]:=by kernel_rfl
theorem DG:cy Tryz.prog 113=some 5:=by kernel_rfl
theorem W8:ib Tryz.prog 113=some [(0,5)]:=by kernel_rfl
theorem CQ:bP Tryz.prog 113=some [(.int .i64 0),(.slice none 0 0),(.int .u64 0),(.string {data:= #[]}),(.slice none 0 0)]:=by kernel_rfl
theorem abD:Tryz.prog.underlying 117=some (.int .u64):=by kernel_rfl
theorem CT:(Tryz.prog.underlying 117).isSome=true:=by kernel_rfl
theorem Xu:cN Tryz.prog 117=true:=by kernel_rfl
theorem Xt:cN Tryz.prog 120=true:=by kernel_rfl
theorem abC:Tryz.prog.underlying 130=some (.pointer 192):=by kernel_rfl
theorem Xs:cN Tryz.prog 130=true:=by kernel_rfl
theorem Xr:cN Tryz.prog 133=true:=by kernel_rfl
theorem Xg:cE Tryz.prog 133=some (224,7):=by kernel_rfl
theorem MW:qX Tryz.prog 133=some (224,7,80,[(.bool false),(.bool false),(.int .i64 0),(.slice none 0 0),(.slice none 0 0),(.int .i64 0),(.map none)]):=by kernel_rfl
theorem Xq:cN Tryz.prog 134=true:=by kernel_rfl
theorem Xf:cE Tryz.prog 134=some (253,4):=by kernel_rfl
theorem MV:qX Tryz.prog 134=some (253,4,48,[(.slice none 0 0),(.int .i64 0),(.int .i64 0),(.int .i64 0)]):=by kernel_rfl
theorem Lm:ib Tryz.prog 136=some [(0,7),(7,1),(8,1),(9,1),(10,1),(11,1)]:=by kernel_rfl
theorem La:bP Tryz.prog 136=some [(.int .i64 0),(.int .i64 0),(.int .i64 0),(.int .i64 0),(.int .i64 0),(.int .i64 0),(.int .i64 0),(.pointer none),(.slice none 0 0),(.slice none 0 0),(.slice none 0 0),(.int .i64 0)]:=by kernel_rfl
theorem Xp:cN Tryz.prog 137=true:=by kernel_rfl
theorem Xe:cE Tryz.prog 137=some (327,9):=by kernel_rfl
theorem ZB:qX Tryz.prog 137=some (327,9,72,[(.int .u64 0),(.int .u64 0),(.int .i64 0),(.int .u64 0),(.int .u64 0),(.int .i64 0),(.int .u64 0),(.int .u64 0),(.int .i64 0)]):=by kernel_rfl
theorem W7:ib Tryz.prog 139=some [(0,1),(1,1)]:=by kernel_rfl
theorem WG:bP Tryz.prog 139=some [(.pointer none),(.slice none 0 0)]:=by kernel_rfl
theorem W6:ib Tryz.prog 141=some [(0,1),(1,1),(2,1),(3,1)]:=by kernel_rfl
theorem WE:bP Tryz.prog 141=some [(.pointer none),(.pointer none),(.int .i64 0),(.int .i64 0)]:=by kernel_rfl
theorem yq:cN Tryz.prog 143=true:=by kernel_rfl
theorem Xd:cE Tryz.prog 143=some (163,1):=by kernel_rfl
theorem yO:qX Tryz.prog 143=some (163,1,4,[(.int .u32 0)]):=by kernel_rfl
theorem W5:ib Tryz.prog 145=some [(0,1),(1,1),(2,1),(3,1),(4,1),(5,1),(6,1),(7,1)]:=by kernel_rfl
theorem WD:bP Tryz.prog 145=some [(.pointer none),(.int .i64 0),(.int .i64 0),(.int .i64 0),(.slice none 0 0),(.slice none 0 0),(.int .i64 0),(.int .i64 0)]:=by kernel_rfl
theorem Xo:cN Tryz.prog 151=true:=by kernel_rfl
theorem Kx:Tryz.prog.underlying 163=some (.int .u32):=by kernel_rfl
theorem CS:(Tryz.prog.underlying 163).isSome=true:=by kernel_rfl
theorem nc:cN Tryz.prog 163=true:=by kernel_rfl
theorem cZ:cy Tryz.prog 170=some 8:=by kernel_rfl
theorem ed:ib Tryz.prog 170=some [(0,1),(1,1),(2,1),(3,1),(4,1),(5,1),(6,1),(7,1)]:=by kernel_rfl
theorem bE:bP Tryz.prog 170=some [(.slice none 0 0),(.slice none 0 0),(.int .u64 0),(.int .i64 0),(.int .i64 0),(.int .u64 0),(.int .i64 0),(.int .i64 0)]:=by kernel_rfl
theorem W4:ib Tryz.prog 174=some [(0,1),(1,1),(2,1)]:=by kernel_rfl
theorem WC:bP Tryz.prog 174=some [(.int .i64 0),(.int .i64 0),(.int .u64 0)]:=by kernel_rfl
theorem Lt:cE Tryz.prog 175=some (117,1):=by kernel_rfl
theorem MU:qX Tryz.prog 175=some (117,1,8,[(.int .u64 0)]):=by kernel_rfl
theorem XM:kJ Tryz.prog 175=true:=by kernel_rfl
theorem W3:ib Tryz.prog 177=some [(0,1),(1,1),(2,1),(3,1),(4,1),(5,1),(6,1),(7,1),(8,1),(9,1),(10,1)]:=by kernel_rfl
theorem WB:bP Tryz.prog 177=some [(.pointer none),(.pointer none),(.int .i64 0), .nilFunc, .nilFunc,(.int .i64 0),(.bool false),(.int .i64 0),(.int .i64 0),(.int .u64 0),(.int .i64 0)]:=by kernel_rfl
theorem Xn:cN Tryz.prog 180=true:=by kernel_rfl
theorem abB:Tryz.prog.underlying 190=some (.int .u64):=by kernel_rfl
theorem W2:ib Tryz.prog 192=some [(0,1),(1,1)]:=by kernel_rfl
theorem Wz:bP Tryz.prog 192=some [(.int .i64 0),(.slice none 0 0)]:=by kernel_rfl
theorem Xm:cN Tryz.prog 194=true:=by kernel_rfl
theorem Xl:cN Tryz.prog 195=true:=by kernel_rfl
theorem gE:cE Tryz.prog 195=some (243,3):=by kernel_rfl
theorem yN:qX Tryz.prog 195=some (243,3,24,[(.int .u64 0),(.int .i64 0),(.int .u64 0)]):=by kernel_rfl
theorem LD:kJ Tryz.prog 195=true:=by kernel_rfl
theorem WZ:ib Tryz.prog 197=some [(0,1),(1,1),(2,1)]:=by kernel_rfl
theorem Wy:bP Tryz.prog 197=some [(.slice none 0 0),(.map none),(.int .u64 0)]:=by kernel_rfl
theorem WY:ib Tryz.prog 201=some [(0,1),(1,1),(2,1),(3,1),(4,1),(5,1),(6,4)]:=by kernel_rfl
theorem Wx:bP Tryz.prog 201=some [(.pointer none), .nilFunc, .nilFunc, .nilFunc,(.slice none 0 0),(.int .i64 0),(.int .i64 0),(.int .i64 0),(.int .i64 0),(.bool false)]:=by kernel_rfl
theorem yp:cN Tryz.prog 221=true:=by kernel_rfl
theorem Xc:cE Tryz.prog 221=some (4,1):=by kernel_rfl
theorem DE:qX Tryz.prog 221=some (4,1,1,[(.bool false)]):=by kernel_rfl
theorem Xk:cN Tryz.prog 222=true:=by kernel_rfl
theorem DF:cy Tryz.prog 228=some 4:=by kernel_rfl
theorem WX:ib Tryz.prog 228=some [(0,1),(1,1),(2,1),(3,1)]:=by kernel_rfl
theorem gD:bP Tryz.prog 228=some [(.pointer none),(.int .i64 0),(.int .i64 0),(.int .i64 0)]:=by kernel_rfl
theorem uS:cy Tryz.prog 243=some 3:=by kernel_rfl
theorem WW:ib Tryz.prog 243=some [(0,1),(1,1),(2,1)]:=by kernel_rfl
theorem yk:bP Tryz.prog 243=some [(.int .u64 0),(.int .i64 0),(.int .u64 0)]:=by kernel_rfl
theorem abA:Tryz.prog.underlying 260=some (.pointer 310):=by kernel_rfl
theorem Ww:bP Tryz.prog 268=some [(.int .u8 0),(.int .u8 0),(.int .u8 0),(.int .u8 0),(.int .u8 0),(.int .u8 0),(.int .u8 0),(.int .u8 0),(.int .u8 0),(.int .u8 0),(.int .u8 0),(.int .u8 0),(.int .u8 0),(.int .u8 0),(.int .u8 0),(.int .u8 0),(.int .u8 0),(.int .u8 0),(.int .u8 0),(.int .u8 0)]:=by kernel_rfl
theorem MT:zS Tryz.prog 268=some (20,5,1):=by kernel_rfl
theorem Xj:cN Tryz.prog 277=true:=by kernel_rfl
theorem ZD:cy Tryz.prog 279=some 2:=by kernel_rfl
theorem WV:ib Tryz.prog 279=some [(0,1),(1,1)]:=by kernel_rfl
theorem K9:bP Tryz.prog 279=some [(.int .i64 0), .nilFunc]:=by kernel_rfl
theorem MZ:cy Tryz.prog 280=some 6:=by kernel_rfl
theorem K8:bP Tryz.prog 280=some [(.int .i64 0), .nilFunc,(.int .i64 0), .nilFunc,(.int .i64 0), .nilFunc]:=by kernel_rfl
theorem ZA:zS Tryz.prog 280=some (3,279,2):=by kernel_rfl
theorem Zz:zS Tryz.prog 327=some (3,310,3):=by kernel_rfl
theorem PI:aj Tryz.prog 23 0=some 0:=by kernel_rfl
theorem vB:aj Tryz.prog 23 1=some 1:=by kernel_rfl
theorem PH:aj Tryz.prog 23 2=some 2:=by kernel_rfl
theorem PG:aj Tryz.prog 23 3=some 3:=by kernel_rfl
theorem PF:aj Tryz.prog 23 4=some 4:=by kernel_rfl
theorem PE:aj Tryz.prog 23 5=some 5:=by kernel_rfl
theorem PD:aj Tryz.prog 23 6=some 6:=by kernel_rfl
theorem PC:aj Tryz.prog 25 0=some 0:=by kernel_rfl
theorem PB:aj Tryz.prog 25 1=some 1:=by kernel_rfl
theorem PA:aj Tryz.prog 25 2=some 2:=by kernel_rfl
theorem Bc:aj Tryz.prog 25 3=some 3:=by kernel_rfl
theorem Pz:aj Tryz.prog 41 0=some 0:=by kernel_rfl
theorem Py:aj Tryz.prog 41 1=some 1:=by kernel_rfl
theorem Px:aj Tryz.prog 41 2=some 2:=by kernel_rfl
theorem Pw:aj Tryz.prog 41 3=some 3:=by kernel_rfl
theorem Pu:aj Tryz.prog 41 4=some 4:=by kernel_rfl
theorem Ps:aj Tryz.prog 47 0=some 0:=by kernel_rfl
theorem nz:aj Tryz.prog 47 1=some 1:=by kernel_rfl
theorem Bb:aj Tryz.prog 47 2=some 2:=by kernel_rfl
theorem Ba:aj Tryz.prog 47 3=some 3:=by kernel_rfl
theorem O9:aj Tryz.prog 47 4=some 4:=by kernel_rfl
theorem O8:aj Tryz.prog 47 5=some 5:=by kernel_rfl
theorem A9:aj Tryz.prog 47 6=some 6:=by kernel_rfl
theorem O0:aj Tryz.prog 47 8=some 8:=by kernel_rfl
theorem OZ:aj Tryz.prog 49 0=some 0:=by kernel_rfl
theorem OY:aj Tryz.prog 49 1=some 1:=by kernel_rfl
theorem OX:aj Tryz.prog 49 2=some 2:=by kernel_rfl
theorem OW:aj Tryz.prog 49 3=some 3:=by kernel_rfl
theorem OV:aj Tryz.prog 49 4=some 4:=by kernel_rfl
theorem OU:aj Tryz.prog 49 5=some 5:=by kernel_rfl
theorem OT:aj Tryz.prog 49 6=some 6:=by kernel_rfl
theorem OS:aj Tryz.prog 49 7=some 7:=by kernel_rfl
theorem OR:aj Tryz.prog 49 8=some 8:=by kernel_rfl
theorem lx:aj Tryz.prog 63 0=some 0:=by kernel_rfl
theorem vA:aj Tryz.prog 63 1=some 11:=by kernel_rfl
theorem OQ:aj Tryz.prog 94 0=some 0:=by kernel_rfl
theorem OP:aj Tryz.prog 94 2=some 2:=by kernel_rfl
theorem OO:aj Tryz.prog 94 3=some 3:=by kernel_rfl
theorem Jx:aj Tryz.prog 100 2=some 2:=by kernel_rfl
theorem Jw:aj Tryz.prog 100 3=some 3:=by kernel_rfl
theorem Jv:aj Tryz.prog 100 5=some 5:=by kernel_rfl
theorem fR:aj Tryz.prog 100 6=some 6:=by kernel_rfl
theorem Ju:aj Tryz.prog 109 0=some 0:=by kernel_rfl
theorem xR:aj Tryz.prog 109 1=some 1:=by kernel_rfl
theorem Jt:aj Tryz.prog 109 2=some 2:=by kernel_rfl
theorem Js:aj Tryz.prog 109 3=some 3:=by kernel_rfl
theorem xQ:aj Tryz.prog 109 4=some 4:=by kernel_rfl
theorem rS:aj Tryz.prog 109 5=some 5:=by kernel_rfl
theorem xP:aj Tryz.prog 109 6=some 6:=by kernel_rfl
theorem jx:aj Tryz.prog 111 0=some 0:=by kernel_rfl
theorem Jr:aj Tryz.prog 111 1=some 8:=by kernel_rfl
theorem xO:aj Tryz.prog 111 2=some 15:=by kernel_rfl
theorem Jq:aj Tryz.prog 111 3=some 19:=by kernel_rfl
theorem Jp:aj Tryz.prog 111 4=some 20:=by kernel_rfl
theorem fm:aj Tryz.prog 111 5=some 21:=by kernel_rfl
theorem Jo:aj Tryz.prog 111 6=some 28:=by kernel_rfl
theorem Jn:aj Tryz.prog 113 0=some 0:=by kernel_rfl
theorem Jm:aj Tryz.prog 136 0=some 0:=by kernel_rfl
theorem Jl:aj Tryz.prog 136 1=some 7:=by kernel_rfl
theorem Jk:aj Tryz.prog 136 2=some 8:=by kernel_rfl
theorem Jj:aj Tryz.prog 136 3=some 9:=by kernel_rfl
theorem Ji:aj Tryz.prog 136 4=some 10:=by kernel_rfl
theorem Jh:aj Tryz.prog 136 5=some 11:=by kernel_rfl
theorem Jg:aj Tryz.prog 139 0=some 0:=by kernel_rfl
theorem Jf:aj Tryz.prog 139 1=some 1:=by kernel_rfl
theorem Je:aj Tryz.prog 141 0=some 0:=by kernel_rfl
theorem Jd:aj Tryz.prog 141 1=some 1:=by kernel_rfl
theorem Jc:aj Tryz.prog 141 2=some 2:=by kernel_rfl
theorem Jb:aj Tryz.prog 141 3=some 3:=by kernel_rfl
theorem Ja:aj Tryz.prog 145 0=some 0:=by kernel_rfl
theorem I9:aj Tryz.prog 145 1=some 1:=by kernel_rfl
theorem I8:aj Tryz.prog 145 2=some 2:=by kernel_rfl
theorem I7:aj Tryz.prog 145 3=some 3:=by kernel_rfl
theorem I6:aj Tryz.prog 145 4=some 4:=by kernel_rfl
theorem I5:aj Tryz.prog 145 5=some 5:=by kernel_rfl
theorem I4:aj Tryz.prog 145 6=some 6:=by kernel_rfl
theorem I0:aj Tryz.prog 145 7=some 7:=by kernel_rfl
theorem IZ:aj Tryz.prog 170 0=some 0:=by kernel_rfl
theorem IY:aj Tryz.prog 170 1=some 1:=by kernel_rfl
theorem IX:aj Tryz.prog 170 2=some 2:=by kernel_rfl
theorem IW:aj Tryz.prog 170 3=some 3:=by kernel_rfl
theorem IV:aj Tryz.prog 170 4=some 4:=by kernel_rfl
theorem IU:aj Tryz.prog 170 5=some 5:=by kernel_rfl
theorem IT:aj Tryz.prog 170 6=some 6:=by kernel_rfl
theorem IS:aj Tryz.prog 170 7=some 7:=by kernel_rfl
theorem IQ:aj Tryz.prog 174 0=some 0:=by kernel_rfl
theorem IP:aj Tryz.prog 174 1=some 1:=by kernel_rfl
theorem IN:aj Tryz.prog 174 2=some 2:=by kernel_rfl
theorem IM:aj Tryz.prog 177 0=some 0:=by kernel_rfl
theorem IL:aj Tryz.prog 177 1=some 1:=by kernel_rfl
theorem IK:aj Tryz.prog 177 2=some 2:=by kernel_rfl
theorem IJ:aj Tryz.prog 177 3=some 3:=by kernel_rfl
theorem II:aj Tryz.prog 177 4=some 4:=by kernel_rfl
theorem IH:aj Tryz.prog 177 5=some 5:=by kernel_rfl
theorem IG:aj Tryz.prog 177 6=some 6:=by kernel_rfl
theorem IF:aj Tryz.prog 177 7=some 7:=by kernel_rfl
theorem IE:aj Tryz.prog 177 8=some 8:=by kernel_rfl
theorem ID:aj Tryz.prog 177 9=some 9:=by kernel_rfl
theorem Ep:aj Tryz.prog 177 10=some 10:=by kernel_rfl
theorem IC:aj Tryz.prog 192 0=some 0:=by kernel_rfl
theorem IB:aj Tryz.prog 192 1=some 1:=by kernel_rfl
theorem IA:aj Tryz.prog 197 0=some 0:=by kernel_rfl
theorem Iz:aj Tryz.prog 197 1=some 1:=by kernel_rfl
theorem Iy:aj Tryz.prog 197 2=some 2:=by kernel_rfl
theorem Iw:aj Tryz.prog 199 3=some 3:=by kernel_rfl
theorem Iv:aj Tryz.prog 201 0=some 0:=by kernel_rfl
theorem Iu:aj Tryz.prog 201 5=some 5:=by kernel_rfl
theorem Is:aj Tryz.prog 201 6=some 6:=by kernel_rfl
theorem Ir:aj Tryz.prog 224 0=some 0:=by kernel_rfl
theorem Ip:aj Tryz.prog 224 1=some 1:=by kernel_rfl
theorem Io:aj Tryz.prog 224 2=some 2:=by kernel_rfl
theorem rR:aj Tryz.prog 224 3=some 3:=by kernel_rfl
theorem nV:aj Tryz.prog 224 4=some 4:=by kernel_rfl
theorem Il:aj Tryz.prog 224 5=some 5:=by kernel_rfl
theorem Ij:aj Tryz.prog 224 6=some 6:=by kernel_rfl
theorem Ii:aj Tryz.prog 228 0=some 0:=by kernel_rfl
theorem Ih:aj Tryz.prog 228 1=some 1:=by kernel_rfl
theorem Ig:aj Tryz.prog 228 2=some 2:=by kernel_rfl
theorem Ie:aj Tryz.prog 228 3=some 3:=by kernel_rfl
theorem Ic:aj Tryz.prog 243 0=some 0:=by kernel_rfl
theorem xN:aj Tryz.prog 243 1=some 1:=by kernel_rfl
theorem Ib:aj Tryz.prog 243 2=some 2:=by kernel_rfl
theorem H9:aj Tryz.prog 253 0=some 0:=by kernel_rfl
theorem H8:aj Tryz.prog 253 1=some 1:=by kernel_rfl
theorem H7:aj Tryz.prog 253 2=some 2:=by kernel_rfl
theorem H6:aj Tryz.prog 253 3=some 3:=by kernel_rfl
theorem H5:aj Tryz.prog 279 0=some 0:=by kernel_rfl
theorem H4:aj Tryz.prog 279 1=some 1:=by kernel_rfl
theorem H3:aj Tryz.prog 310 0=some 0:=by kernel_rfl
theorem H2:aj Tryz.prog 310 1=some 1:=by kernel_rfl
theorem HZ:aj Tryz.prog 310 2=some 2:=by kernel_rfl
theorem fn_6:av Tryz.prog 6=true:=by kernel_rfl
theorem Wk:av Tryz.prog 8=true:=by kernel_rfl
theorem acU:av Tryz.prog 10=true:=by kernel_rfl
theorem Ao:av Tryz.prog 11=true:=by kernel_rfl
theorem An:av Tryz.prog 12=true:=by kernel_rfl
theorem acT:av Tryz.prog 13=true:=by kernel_rfl
theorem VA:av Tryz.prog 14=true:=by kernel_rfl
theorem Vz:av Tryz.prog 16=true:=by kernel_rfl
theorem Vy:av Tryz.prog 18=true:=by kernel_rfl
theorem acS:av Tryz.prog 22=true:=by kernel_rfl
theorem Vx:av Tryz.prog 23=true:=by kernel_rfl
theorem Vw:av Tryz.prog 24=true:=by kernel_rfl
theorem KT:av Tryz.prog 26=true:=by kernel_rfl
theorem acR:av Tryz.prog 28=true:=by kernel_rfl
theorem acQ:av Tryz.prog 29=true:=by kernel_rfl
theorem Vv:av Tryz.prog 30=true:=by kernel_rfl
theorem acP:av Tryz.prog 31=true:=by kernel_rfl
theorem acO:av Tryz.prog 32=true:=by kernel_rfl
theorem acN:av Tryz.prog 33=true:=by kernel_rfl
theorem qf:av Tryz.prog 34=true:=by kernel_rfl
theorem acM:av Tryz.prog 35=true:=by kernel_rfl
theorem Vu:av Tryz.prog 36=true:=by kernel_rfl
theorem KS:av Tryz.prog 37=true:=by kernel_rfl
theorem acL:av Tryz.prog 38=true:=by kernel_rfl
theorem xc:av Tryz.prog 39=true:=by kernel_rfl
theorem Vt:av Tryz.prog 40=true:=by kernel_rfl
theorem Vs:av Tryz.prog 41=true:=by kernel_rfl
theorem acK:av Tryz.prog 42=true:=by kernel_rfl
theorem E1:av Tryz.prog 43=true:=by kernel_rfl
theorem acJ:av Tryz.prog 44=true:=by kernel_rfl
theorem Vr:av Tryz.prog 45=true:=by kernel_rfl
theorem gI:av Tryz.prog 46=true:=by kernel_rfl
theorem acI:av Tryz.prog 54=true:=by kernel_rfl
theorem acH:av Tryz.prog 55=true:=by kernel_rfl
theorem acG:av Tryz.prog 57=true:=by kernel_rfl
theorem acF:av Tryz.prog 58=true:=by kernel_rfl
theorem acE:av Tryz.prog 59=true:=by kernel_rfl
theorem EZ:av Tryz.prog 60=true:=by kernel_rfl
theorem acD:av Tryz.prog 61=true:=by kernel_rfl
theorem KR:av Tryz.prog 62=true:=by kernel_rfl
theorem acC:av Tryz.prog 63=true:=by kernel_rfl
theorem acB:av Tryz.prog 64=true:=by kernel_rfl
theorem Vq:av Tryz.prog 65=true:=by kernel_rfl
theorem EY:av Tryz.prog 66=true:=by kernel_rfl
theorem acz:av Tryz.prog 67=true:=by kernel_rfl
theorem Vp:av Tryz.prog 69=true:=by kernel_rfl
theorem Vo:av Tryz.prog 70=true:=by kernel_rfl
theorem acy:av Tryz.prog 71=true:=by kernel_rfl
theorem acx:av Tryz.prog 72=true:=by kernel_rfl
theorem acw:av Tryz.prog 73=true:=by kernel_rfl
theorem KQ:av Tryz.prog 74=true:=by kernel_rfl
theorem Vn:av Tryz.prog 75=true:=by kernel_rfl
theorem Vm:av Tryz.prog 76=true:=by kernel_rfl
theorem acv:av Tryz.prog 77=true:=by kernel_rfl
theorem Vl:av Tryz.prog 78=true:=by kernel_rfl
theorem sn:av Tryz.prog 79=true:=by kernel_rfl
theorem uC:av Tryz.prog 80=true:=by kernel_rfl
theorem acu:av Tryz.prog 81=true:=by kernel_rfl
theorem Vk:av Tryz.prog 82=true:=by kernel_rfl
theorem Am:av Tryz.prog 83=true:=by kernel_rfl
theorem Al:av Tryz.prog 84=true:=by kernel_rfl
theorem Vj:av Tryz.prog 85=true:=by kernel_rfl
theorem xb:av Tryz.prog 86=true:=by kernel_rfl
theorem Vi:av Tryz.prog 87=true:=by kernel_rfl
theorem EX:av Tryz.prog 88=true:=by kernel_rfl
theorem acs:av Tryz.prog 89=true:=by kernel_rfl
theorem Vh:av Tryz.prog 90=true:=by kernel_rfl
theorem acr:av Tryz.prog 91=true:=by kernel_rfl
theorem Vg:av Tryz.prog 92=true:=by kernel_rfl
theorem acq:av Tryz.prog 97=true:=by kernel_rfl
theorem Vf:av Tryz.prog 98=true:=by kernel_rfl
theorem acp:av Tryz.prog 99=true:=by kernel_rfl
theorem MG:av Tryz.prog 100=true:=by kernel_rfl
theorem Y5:av Tryz.prog 101=true:=by kernel_rfl
theorem Y4:av Tryz.prog 103=true:=by kernel_rfl
theorem Y3:av Tryz.prog 107=true:=by kernel_rfl
theorem Dw:av Tryz.prog 108=true:=by kernel_rfl
theorem Dv:av Tryz.prog 109=true:=by kernel_rfl
theorem Du:av Tryz.prog 110=true:=by kernel_rfl
theorem Y2:av Tryz.prog 111=true:=by kernel_rfl
theorem Y1:av Tryz.prog 112=true:=by kernel_rfl
theorem Y0:av Tryz.prog 113=true:=by kernel_rfl
theorem YZ:av Tryz.prog 114=true:=by kernel_rfl
theorem YY:av Tryz.prog 115=true:=by kernel_rfl
theorem YX:av Tryz.prog 116=true:=by kernel_rfl
theorem MF:av Tryz.prog 117=true:=by kernel_rfl
theorem ME:av Tryz.prog 118=true:=by kernel_rfl
theorem Ds:av Tryz.prog 119=true:=by kernel_rfl
theorem YW:av Tryz.prog 120=true:=by kernel_rfl
theorem eO:av Tryz.prog 121=true:=by kernel_rfl
theorem YV:av Tryz.prog 122=true:=by kernel_rfl
theorem YU:av Tryz.prog 123=true:=by kernel_rfl
theorem MD:av Tryz.prog 125=true:=by kernel_rfl
theorem YT:av Tryz.prog 126=true:=by kernel_rfl
theorem MC:av Tryz.prog 127=true:=by kernel_rfl
theorem YS:av Tryz.prog 128=true:=by kernel_rfl
theorem ng:av Tryz.prog 129=true:=by kernel_rfl
theorem iA:av Tryz.prog 130=true:=by kernel_rfl
theorem YR:av Tryz.prog 131=true:=by kernel_rfl
theorem Dr:av Tryz.prog 132=true:=by kernel_rfl
theorem yK:av Tryz.prog 133=true:=by kernel_rfl
theorem YQ:av Tryz.prog 134=true:=by kernel_rfl
theorem o8:av Tryz.prog 135=true:=by kernel_rfl
theorem YP:av Tryz.prog 136=true:=by kernel_rfl
theorem YO:av Tryz.prog 137=true:=by kernel_rfl
theorem MB:av Tryz.prog 138=true:=by kernel_rfl
theorem Dq:av Tryz.prog 139=true:=by kernel_rfl
theorem yJ:av Tryz.prog 140=true:=by kernel_rfl
theorem yI:av Tryz.prog 141=true:=by kernel_rfl
theorem YN:av Tryz.prog 142=true:=by kernel_rfl
theorem Dp:av Tryz.prog 143=true:=by kernel_rfl
theorem YM:av Tryz.prog 144=true:=by kernel_rfl
theorem Dm:av Tryz.prog 145=true:=by kernel_rfl
theorem YL:av Tryz.prog 146=true:=by kernel_rfl
theorem YK:av Tryz.prog 149=true:=by kernel_rfl
theorem Dl:av Tryz.prog 150=true:=by kernel_rfl
theorem MA:av Tryz.prog 151=true:=by kernel_rfl
theorem Mz:av Tryz.prog 152=true:=by kernel_rfl
theorem YJ:av Tryz.prog 153=true:=by kernel_rfl
theorem Dk:av Tryz.prog 154=true:=by kernel_rfl
theorem My:av Tryz.prog 155=true:=by kernel_rfl
theorem YI:av Tryz.prog 156=true:=by kernel_rfl
theorem YH:av Tryz.prog 157=true:=by kernel_rfl
theorem Mx:av Tryz.prog 158=true:=by kernel_rfl
theorem Mw:av Tryz.prog 159=true:=by kernel_rfl
theorem YG:av Tryz.prog 160=true:=by kernel_rfl
theorem ry:av Tryz.prog 161=true:=by kernel_rfl
theorem Dj:av Tryz.prog 162=true:=by kernel_rfl
theorem Di:av Tryz.prog 163=true:=by kernel_rfl
theorem Dh:av Tryz.prog 164=true:=by kernel_rfl
theorem YF:av Tryz.prog 165=true:=by kernel_rfl
theorem Mu:av Tryz.prog 166=true:=by kernel_rfl
theorem YE:av Tryz.prog 167=true:=by kernel_rfl
theorem yH:av Tryz.prog 168=true:=by kernel_rfl
theorem YD:av Tryz.prog 169=true:=by kernel_rfl
theorem Mr:av Tryz.prog 170=true:=by kernel_rfl
theorem YC:av Tryz.prog 171=true:=by kernel_rfl
theorem yG:av Tryz.prog 172=true:=by kernel_rfl
theorem yF:av Tryz.prog 173=true:=by kernel_rfl
theorem YB:av Tryz.prog 174=true:=by kernel_rfl
theorem yE:av Tryz.prog 175=true:=by kernel_rfl
theorem Mq:av Tryz.prog 176=true:=by kernel_rfl
theorem Dg:av Tryz.prog 177=true:=by kernel_rfl
theorem Mp:av Tryz.prog 178=true:=by kernel_rfl
theorem YA:av Tryz.prog 179=true:=by kernel_rfl
theorem Yz:av Tryz.prog 183=true:=by kernel_rfl
theorem Mn:av Tryz.prog 184=true:=by kernel_rfl
theorem Yy:av Tryz.prog 185=true:=by kernel_rfl
theorem Mm:av Tryz.prog 192=true:=by kernel_rfl
theorem Ml:av Tryz.prog 193=true:=by kernel_rfl
theorem Yx:av Tryz.prog 194=true:=by kernel_rfl
theorem Df:av Tryz.prog 195=true:=by kernel_rfl
theorem Mk:av Tryz.prog 196=true:=by kernel_rfl
theorem Yw:av Tryz.prog 197=true:=by kernel_rfl
theorem De:av Tryz.prog 198=true:=by kernel_rfl
theorem Yu:av Tryz.prog 199=true:=by kernel_rfl
theorem Yt:av Tryz.prog 200=true:=by kernel_rfl
theorem Mj:av Tryz.prog 201=true:=by kernel_rfl
theorem Ys:av Tryz.prog 202=true:=by kernel_rfl
theorem Yr:av Tryz.prog 203=true:=by kernel_rfl
theorem Yq:av Tryz.prog 204=true:=by kernel_rfl
theorem Yp:av Tryz.prog 207=true:=by kernel_rfl
theorem Yo:av Tryz.prog 208=true:=by kernel_rfl
theorem Yn:av Tryz.prog 209=true:=by kernel_rfl
theorem yD:av Tryz.prog 210=true:=by kernel_rfl
theorem Ym:av Tryz.prog 211=true:=by kernel_rfl
theorem jK:av Tryz.prog 212=true:=by kernel_rfl
theorem Mh:av Tryz.prog 213=true:=by kernel_rfl
theorem Mg:av Tryz.prog 214=true:=by kernel_rfl
theorem Yl:av Tryz.prog 215=true:=by kernel_rfl
theorem lX:av Tryz.prog 216=true:=by kernel_rfl
theorem Md:av Tryz.prog 217=true:=by kernel_rfl
theorem Mc:av Tryz.prog 218=true:=by kernel_rfl
theorem uQ:av Tryz.prog 219=true:=by kernel_rfl
theorem yC:av Tryz.prog 220=true:=by kernel_rfl
theorem uP:av Tryz.prog 221=true:=by kernel_rfl
theorem Dd:av Tryz.prog 222=true:=by kernel_rfl
theorem ru:av Tryz.prog 223=true:=by kernel_rfl
theorem Mb:av Tryz.prog 224=true:=by kernel_rfl
theorem yB:av Tryz.prog 225=true:=by kernel_rfl
theorem Dc:av Tryz.prog 226=true:=by kernel_rfl
theorem L9:av Tryz.prog 227=true:=by kernel_rfl
theorem L8:av Tryz.prog 228=true:=by kernel_rfl
theorem L7:av Tryz.prog 231=true:=by kernel_rfl
theorem Yk:av Tryz.prog 236=true:=by kernel_rfl
theorem Yj:av Tryz.prog 237=true:=by kernel_rfl
theorem Yi:av Tryz.prog 238=true:=by kernel_rfl
theorem Yh:av Tryz.prog 239=true:=by kernel_rfl
theorem L6:av Tryz.prog 240=true:=by kernel_rfl
theorem L5:av Tryz.prog 241=true:=by kernel_rfl
theorem L4:av Tryz.prog 252=true:=by kernel_rfl
theorem L3:av Tryz.prog 253=true:=by kernel_rfl
theorem Yg:av Tryz.prog 254=true:=by kernel_rfl
theorem Yf:av Tryz.prog 255=true:=by kernel_rfl
theorem LZ:av Tryz.prog 257=true:=by kernel_rfl
end Go.Proofs.YtdolmecackmjdaaGreatDoor.T
