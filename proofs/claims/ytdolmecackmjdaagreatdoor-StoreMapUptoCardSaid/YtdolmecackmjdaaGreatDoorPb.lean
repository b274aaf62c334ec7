/- Part Pb of the proof. -/
import Derived.Test.YtdolmecackmjdaaGreatDoorPa
import Derived.KernelRfl
import Derived.Test.YtdolmecackmjdaaGreatDoorProg
set_option maxRecDepth 100000
namespace Go.Proofs.YtdolmecackmjdaaGreatDoor.T
open Go Go.dL
theorem mix:Tryz.prog.follows .mixedOrders=true:=by kernel_rfl
theorem u_3:Tryz.prog.underlying 3=some (.int .i64):=by kernel_rfl
theorem UA:(Tryz.prog.underlying 3).isSome=true:=by kernel_rfl
theorem bR:dp Tryz.prog 3=true:=by kernel_rfl
theorem adM:cq Tryz.prog 3=some [(.int .i64 0)]:=by kernel_rfl
theorem u_4:Tryz.prog.underlying 4=some .bool:=by kernel_rfl
theorem UD:dp Tryz.prog 4=true:=by kernel_rfl
theorem qw:Tryz.prog.underlying 5=some (.int .u8):=by kernel_rfl
theorem YY:(Tryz.prog.underlying 5).isSome=true:=by kernel_rfl
theorem qc:dp Tryz.prog 5=true:=by kernel_rfl
theorem kk:Tryz.prog.underlying 9=some .string:=by kernel_rfl
theorem Ac:dp Tryz.prog 9=true:=by kernel_rfl
theorem Cq:db Tryz.prog 23=some 7:=by kernel_rfl
theorem aeR:iE Tryz.prog 23=some [(0,1),(1,1),(2,1),(3,1),(4,1),(5,1),(6,1)]:=by kernel_rfl
theorem Nl:cq Tryz.prog 23=some [(.int .i64 0),(.int .i64 0),(.int .i64 0),(.int .i64 0),(.int .i64 0),(.int .i64 0),(.int .i64 0)]:=by kernel_rfl
theorem NR:db Tryz.prog 25=some 4:=by kernel_rfl
theorem aeQ:iE Tryz.prog 25=some [(0,1),(1,1),(2,1),(3,1)]:=by kernel_rfl
theorem XD:cq Tryz.prog 25=some [(.int .i64 0),(.int .i64 0),(.int .i64 0),(.int .i64 0)]:=by kernel_rfl
theorem u_28:Tryz.prog.underlying 28=some (.pointer 111):=by kernel_rfl
theorem GY:dp Tryz.prog 37=true:=by kernel_rfl
theorem Nr:di Tryz.prog 37=some (49,9):=by kernel_rfl
theorem Hj:sP Tryz.prog 37=some (49,9,80,[(.string {data:= #[]}),(.slice none 0 0),(.int .u64 0),(.int .i64 0),(.int .u64 0),(.int .i64 0),(.bool false),(.bool false),(.bool false)]):=by kernel_rfl
theorem XS:kK Tryz.prog 37=true:=by kernel_rfl
theorem M5:Tryz.prog.underlying 38=some (.int .u64):=by kernel_rfl
theorem GX:(Tryz.prog.underlying 38).isSome=true:=by kernel_rfl
theorem jC:dp Tryz.prog 38=true:=by kernel_rfl
theorem aeZ:dp Tryz.prog 39=true:=by kernel_rfl
theorem aeS:di Tryz.prog 39=some (188,2):=by kernel_rfl
theorem aS:db Tryz.prog 41=some 5:=by kernel_rfl
theorem aeP:iE Tryz.prog 41=some [(0,1),(1,1),(2,1),(3,1),(4,1)]:=by kernel_rfl
theorem iu:cq Tryz.prog 41=some [(.int .i64 0),(.slice none 0 0),(.int .u64 0),(.string {data:= #[]}),(.slice none 0 0)]:=by kernel_rfl
theorem aeY:dp Tryz.prog 43=true:=by kernel_rfl
theorem nR:di Tryz.prog 43=some (9,1):=by kernel_rfl
theorem Hi:sP Tryz.prog 43=some (9,1,16,[(.string {data:= #[]})]):=by kernel_rfl
theorem ae7:kK Tryz.prog 43=true:=by kernel_rfl
theorem ll:Tryz.prog.underlying 44=some (.slice 5):=by kernel_rfl
theorem iw:dp Tryz.prog 44=true:=by kernel_rfl
theorem eC:di Tryz.prog 44=some (5,1):=by kernel_rfl
theorem gj:sP Tryz.prog 44=some (5,1,1,[(.int .u8 0)]):=by kernel_rfl
theorem mB:kK Tryz.prog 44=true:=by kernel_rfl
theorem NQ:db Tryz.prog 47=some 11:=by kernel_rfl
theorem aeO:iE Tryz.prog 47=some [(0,1),(1,1),(2,1),(3,1),(4,1),(5,1),(6,1),(7,1),(8,1),(9,1),(10,1)]:=by kernel_rfl
theorem XC:cq Tryz.prog 47=some [(.int .i64 0),(.slice none 0 0),(.int .u64 0),(.int .i64 0),(.int .u64 0),(.int .u64 0),(.slice none 0 0),(.bool false),(.bool false),(.slice none 0 0),(.string {data:= #[]})]:=by kernel_rfl
theorem mD:db Tryz.prog 49=some 9:=by kernel_rfl
theorem aeN:iE Tryz.prog 49=some [(0,1),(1,1),(2,1),(3,1),(4,1),(5,1),(6,1),(7,1),(8,1)]:=by kernel_rfl
theorem uc:cq Tryz.prog 49=some [(.string {data:= #[]}),(.slice none 0 0),(.int .u64 0),(.int .i64 0),(.int .u64 0),(.int .i64 0),(.bool false),(.bool false),(.bool false)]:=by kernel_rfl
theorem oN:di Tryz.prog 53=some (63,12):=by kernel_rfl
theorem Nu:dp Tryz.prog 55=true:=by kernel_rfl
theorem qk:di Tryz.prog 55=some (3,1):=by kernel_rfl
theorem iA:sP Tryz.prog 55=some (3,1,8,[(.int .i64 0)]):=by kernel_rfl
theorem uf:kK Tryz.prog 55=true:=by kernel_rfl
theorem eD:dp Tryz.prog 59=true:=by kernel_rfl
theorem fI:di Tryz.prog 59=some (73,8):=by kernel_rfl
theorem Hg:sP Tryz.prog 59=some (73,8,88,[(.string {data:= #[]}),(.slice none 0 0),(.int .u64 0),(.int .i64 0),(.int .u64 0),(.int .i64 0),(.int .i64 0),(.bool false)]):=by kernel_rfl
theorem XR:kK Tryz.prog 59=true:=by kernel_rfl
theorem aeM:iE Tryz.prog 61=some [(0,1),(1,1),(2,1),(3,1),(4,1),(5,1)]:=by kernel_rfl
theorem aet:cq Tryz.prog 61=some [(.slice none 0 0),(.int .i64 0),(.int .u64 0),(.int .u64 0),(.int .i64 0),(.int .i64 0)]:=by kernel_rfl
theorem Cp:db Tryz.prog 73=some 8:=by kernel_rfl
theorem Nq:iE Tryz.prog 73=some [(0,1),(1,1),(2,1),(3,1),(4,1),(5,1),(6,1),(7,1)]:=by kernel_rfl
theorem wg:cq Tryz.prog 73=some [(.string {data:= #[]}),(.slice none 0 0),(.int .u64 0),(.int .i64 0),(.int .u64 0),(.int .i64 0),(.int .i64 0),(.bool false)]:=by kernel_rfl
theorem u_79:Tryz.prog.underlying 79=some (.pointer 136):=by kernel_rfl
theorem Ns:dp Tryz.prog 79=true:=by kernel_rfl
theorem u_82:Tryz.prog.underlying 82=some (.pointer 139):=by kernel_rfl
theorem aeX:dp Tryz.prog 82=true:=by kernel_rfl
theorem aeW:dp Tryz.prog 85=true:=by kernel_rfl
theorem aes:cq Tryz.prog 88=some [(.int .i64 0),(.int .i64 0),(.int .i64 0),(.int .i64 0)]:=by kernel_rfl
theorem agn:BR Tryz.prog 88=some (4,3,1):=by kernel_rfl
theorem aeV:dp Tryz.prog 89=true:=by kernel_rfl
theorem aeL:iE Tryz.prog 94=some [(0,1),(1,1),(2,1),(3,1)]:=by kernel_rfl
theorem aer:cq Tryz.prog 94=some [(.int .i64 0),(.int .u64 0),(.int .u64 0),(.int .i64 0)]:=by kernel_rfl
theorem P3:db Tryz.prog 100=some 7:=by kernel_rfl
theorem ZU:iE Tryz.prog 100=some [(0,1),(1,1),(2,1),(3,1),(4,1),(5,1),(6,1)]:=by kernel_rfl
theorem Zu:cq Tryz.prog 100=some [(.int .i64 0),(.int .i64 0),(.int .i64 0),(.int .i64 0),(.int .i64 0),(.int .i64 0),(.int .i64 0)]:=by kernel_rfl
theorem ns:dp Tryz.prog 104=true:=by kernel_rfl
theorem aeH:Tryz.prog.underlying 105=some (.pointer 197):=by kernel_rfl
theorem EV:dp Tryz.prog 105=true:=by kernel_rfl
theorem wH:dp Tryz.prog 106=true:=by kernel_rfl
theorem sZ:dp Tryz.prog 107=true:=by kernel_rfl
theorem ZT:iE Tryz.prog 109=some [(0,1),(1,1),(2,1),(3,1),(4,1),(5,1),(6,1),(7,1)]:=by kernel_rfl
theorem Zt:cq Tryz.prog 109=some [(.pointer none),(.pointer none),(.pointer none),(.pointer none),(.pointer none),(.pointer none),(.pointer none),(.pointer none)]:=by kernel_rfl
theorem ZS:iE Tryz.prog 111=some [(0,8),(8,7),(15,4),(19,1),(20,1),(21,7),(28,1)]:=by kernel_rfl
theorem Zs:cq Tryz.prog 111=some [(.pointer none),(.pointer none),(.pointer none),(.pointer none),(.pointer none),(.pointer none),(.pointer none),(.pointer none),(.int .i64 0),(.int .i64 0),(.int .i64 0),(.int .i64 0),(.int .i64 0),(.int .i64 0),(.int .i64 0),(.int .i64 0),(.int .i64 0),(.int .i64 0),(.int .i64 0),(.int .u64 0),(.int .i64 0),(.int .i64 0),(.int .i64 0),(.int .i64 0),(.int .i64 0),(.int .i64 0),(.int .i64 0),(.int .i64 0),(.slice none 0 0)]:=by kernel_rfl
theorem FD:db Tryz.prog 113=some 5:=by kernel_rfl
theorem ZR:iE Tryz.prog 113=some [(0,5)]:=by kernel_rfl
theorem EN:cq Tryz.prog 113=some [(.int .i64 0),(.slice none 0 0),(.int .u64 0),(.string {data:= #[]}),(.slice none 0 0)]:=by kernel_rfl
theorem aeG:Tryz.prog.underlying 117=some (.int .u64):=by kernel_rfl
theorem ER:(Tryz.prog.underlying 117).isSome=true:=by kernel_rfl
theorem aad:dp Tryz.prog 117=true:=by kernel_rfl
theorem aac:dp Tryz.prog 120=true:=by kernel_rfl
theorem aeF:Tryz.prog.underlying 130=some (.pointer 192):=by kernel_rfl
theorem aab:dp Tryz.prog 130=true:=by kernel_rfl
theorem aaa:dp Tryz.prog 133=true:=by kernel_rfl
theorem ZZ:di Tryz.prog 133=some (224,7):=by kernel_rfl
theorem PW:sP Tryz.prog 133=some (224,7,80,[(.bool false),(.bool false),(.int .i64 0),(.slice none 0 0),(.slice none 0 0),(.int .i64 0),(.map none)]):=by kernel_rfl
theorem Z9:dp Tryz.prog 134=true:=by kernel_rfl
theorem ZY:di Tryz.prog 134=some (253,4):=by kernel_rfl
theorem PV:sP Tryz.prog 134=some (253,4,48,[(.slice none 0 0),(.int .i64 0),(.int .i64 0),(.int .i64 0)]):=by kernel_rfl
theorem N7:iE Tryz.prog 136=some [(0,7),(7,1),(8,1),(9,1),(10,1),(11,1)]:=by kernel_rfl
theorem NW:cq Tryz.prog 136=some [(.int .i64 0),(.int .i64 0),(.int .i64 0),(.int .i64 0),(.int .i64 0),(.int .i64 0),(.int .i64 0),(.pointer none),(.slice none 0 0),(.slice none 0 0),(.slice none 0 0),(.int .i64 0)]:=by kernel_rfl
theorem Z8:dp Tryz.prog 137=true:=by kernel_rfl
theorem ZX:di Tryz.prog 137=some (327,9):=by kernel_rfl
theorem acq:sP Tryz.prog 137=some (327,9,72,[(.int .u64 0),(.int .u64 0),(.int .i64 0),(.int .u64 0),(.int .u64 0),(.int .i64 0),(.int .u64 0),(.int .u64 0),(.int .i64 0)]):=by kernel_rfl
theorem ZQ:iE Tryz.prog 139=some [(0,1),(1,1)]:=by kernel_rfl
theorem Zr:cq Tryz.prog 139=some [(.pointer none),(.slice none 0 0)]:=by kernel_rfl
theorem ZP:iE Tryz.prog 141=some [(0,1),(1,1),(2,1),(3,1)]:=by kernel_rfl
theorem Zq:cq Tryz.prog 141=some [(.pointer none),(.pointer none),(.int .i64 0),(.int .i64 0)]:=by kernel_rfl
theorem Ap:dp Tryz.prog 143=true:=by kernel_rfl
theorem ZW:di Tryz.prog 143=some (163,1):=by kernel_rfl
theorem AO:sP Tryz.prog 143=some (163,1,4,[(.int .u32 0)]):=by kernel_rfl
theorem ZO:iE Tryz.prog 145=some [(0,1),(1,1),(2,1),(3,1),(4,1),(5,1),(6,1),(7,1)]:=by kernel_rfl
theorem Zp:cq Tryz.prog 145=some [(.pointer none),(.int .i64 0),(.int .i64 0),(.int .i64 0),(.slice none 0 0),(.slice none 0 0),(.int .i64 0),(.int .i64 0)]:=by kernel_rfl
theorem Z7:dp Tryz.prog 151=true:=by kernel_rfl
theorem Nn:Tryz.prog.underlying 163=some (.int .u32):=by kernel_rfl
theorem EP:(Tryz.prog.underlying 163).isSome=true:=by kernel_rfl
theorem oX:dp Tryz.prog 163=true:=by kernel_rfl
theorem dR:db Tryz.prog 170=some 8:=by kernel_rfl
theorem eT:iE Tryz.prog 170=some [(0,1),(1,1),(2,1),(3,1),(4,1),(5,1),(6,1),(7,1)]:=by kernel_rfl
theorem bW:cq Tryz.prog 170=some [(.slice none 0 0),(.slice none 0 0),(.int .u64 0),(.int .i64 0),(.int .i64 0),(.int .u64 0),(.int .i64 0),(.int .i64 0)]:=by kernel_rfl
theorem ZN:iE Tryz.prog 174=some [(0,1),(1,1),(2,1)]:=by kernel_rfl
theorem Zo:cq Tryz.prog 174=some [(.int .i64 0),(.int .i64 0),(.int .u64 0)]:=by kernel_rfl
theorem N9:di Tryz.prog 175=some (117,1):=by kernel_rfl
theorem PU:sP Tryz.prog 175=some (117,1,8,[(.int .u64 0)]):=by kernel_rfl
theorem aaw:kK Tryz.prog 175=true:=by kernel_rfl
theorem ZM:iE Tryz.prog 177=some [(0,1),(1,1),(2,1),(3,1),(4,1),(5,1),(6,1),(7,1),(8,1),(9,1),(10,1)]:=by kernel_rfl
theorem Zn:cq Tryz.prog 177=some [(.pointer none),(.pointer none),(.int .i64 0), .nilFunc, .nilFunc,(.int .i64 0),(.bool false),(.int .i64 0),(.int .i64 0),(.int .u64 0),(.int .i64 0)]:=by kernel_rfl
theorem Z6:dp Tryz.prog 180=true:=by kernel_rfl
theorem aeE:Tryz.prog.underlying 190=some (.int .u64):=by kernel_rfl
theorem ZL:iE Tryz.prog 192=some [(0,1),(1,1)]:=by kernel_rfl
theorem Zm:cq Tryz.prog 192=some [(.int .i64 0),(.slice none 0 0)]:=by kernel_rfl
theorem Z5:dp Tryz.prog 194=true:=by kernel_rfl
theorem Z4:dp Tryz.prog 195=true:=by kernel_rfl
theorem ig:di Tryz.prog 195=some (243,3):=by kernel_rfl
theorem AN:sP Tryz.prog 195=some (243,3,24,[(.int .u64 0),(.int .i64 0),(.int .u64 0)]):=by kernel_rfl
theorem Oh:kK Tryz.prog 195=true:=by kernel_rfl
theorem ZK:iE Tryz.prog 197=some [(0,1),(1,1),(2,1)]:=by kernel_rfl
theorem Zl:cq Tryz.prog 197=some [(.slice none 0 0),(.map none),(.int .u64 0)]:=by kernel_rfl
theorem ZJ:iE Tryz.prog 201=some [(0,1),(1,1),(2,1),(3,1),(4,1),(5,1),(6,4)]:=by kernel_rfl
theorem Zk:cq Tryz.prog 201=some [(.pointer none), .nilFunc, .nilFunc, .nilFunc,(.slice none 0 0),(.int .i64 0),(.int .i64 0),(.int .i64 0),(.int .i64 0),(.bool false)]:=by kernel_rfl
theorem Ao:dp Tryz.prog 221=true:=by kernel_rfl
theorem ZV:di Tryz.prog 221=some (4,1):=by kernel_rfl
theorem FB:sP Tryz.prog 221=some (4,1,1,[(.bool false)]):=by kernel_rfl
theorem Z3:dp Tryz.prog 222=true:=by kernel_rfl
theorem FC:db Tryz.prog 228=some 4:=by kernel_rfl
theorem ZI:iE Tryz.prog 228=some [(0,1),(1,1),(2,1),(3,1)]:=by kernel_rfl
theorem ie:cq Tryz.prog 228=some [(.pointer none),(.int .i64 0),(.int .i64 0),(.int .i64 0)]:=by kernel_rfl
theorem wQ:db Tryz.prog 243=some 3:=by kernel_rfl
theorem ZH:iE Tryz.prog 243=some [(0,1),(1,1),(2,1)]:=by kernel_rfl
theorem Ak:cq Tryz.prog 243=some [(.int .u64 0),(.int .i64 0),(.int .u64 0)]:=by kernel_rfl
theorem aeD:Tryz.prog.underlying 260=some (.pointer 310):=by kernel_rfl
theorem Zj:cq Tryz.prog 268=some [(.int .u8 0),(.int .u8 0),(.int .u8 0),(.int .u8 0),(.int .u8 0),(.int .u8 0),(.int .u8 0),(.int .u8 0),(.int .u8 0),(.int .u8 0),(.int .u8 0),(.int .u8 0),(.int .u8 0),(.int .u8 0),(.int .u8 0),(.int .u8 0),(.int .u8 0),(.int .u8 0),(.int .u8 0),(.int .u8 0)]:=by kernel_rfl
theorem PT:BR Tryz.prog 268=some (20,5,1):=by kernel_rfl
theorem Z2:dp Tryz.prog 277=true:=by kernel_rfl
theorem acs:db Tryz.prog 279=some 2:=by kernel_rfl
theorem ZG:iE Tryz.prog 279=some [(0,1),(1,1)]:=by kernel_rfl
theorem NV:cq Tryz.prog 279=some [(.int .i64 0), .nilFunc]:=by kernel_rfl
theorem PZ:db Tryz.prog 280=some 6:=by kernel_rfl
theorem NU:cq Tryz.prog 280=some [(.int .i64 0), .nilFunc,(.int .i64 0), .nilFunc,(.int .i64 0), .nilFunc]:=by kernel_rfl
theorem acp:BR Tryz.prog 280=some (3,279,2):=by kernel_rfl
theorem aco:BR Tryz.prog 327=some (3,310,3):=by kernel_rfl
theorem SA:aj Tryz.prog 23 0=some 0:=by kernel_rfl
theorem xw:aj Tryz.prog 23 1=some 1:=by kernel_rfl
theorem Sz:aj Tryz.prog 23 2=some 2:=by kernel_rfl
theorem Sx:aj Tryz.prog 23 3=some 3:=by kernel_rfl
theorem Sw:aj Tryz.prog 23 4=some 4:=by kernel_rfl
theorem Su:aj Tryz.prog 23 5=some 5:=by kernel_rfl
theorem Ss:aj Tryz.prog 23 6=some 6:=by kernel_rfl
theorem Sp:aj Tryz.prog 25 0=some 0:=by kernel_rfl
theorem Sn:aj Tryz.prog 25 1=some 1:=by kernel_rfl
theorem Sk:aj Tryz.prog 25 2=some 2:=by kernel_rfl
theorem Db:aj Tryz.prog 25 3=some 3:=by kernel_rfl
theorem Sj:aj Tryz.prog 41 0=some 0:=by kernel_rfl
theorem Si:aj Tryz.prog 41 1=some 1:=by kernel_rfl
theorem Sg:aj Tryz.prog 41 2=some 2:=by kernel_rfl
theorem Sf:aj Tryz.prog 41 3=some 3:=by kernel_rfl
theorem Se:aj Tryz.prog 41 4=some 4:=by kernel_rfl
theorem Sd:aj Tryz.prog 47 0=some 0:=by kernel_rfl
theorem Sc:aj Tryz.prog 47 1=some 1:=by kernel_rfl
theorem xv:aj Tryz.prog 47 2=some 2:=by kernel_rfl
theorem xu:aj Tryz.prog 47 3=some 3:=by kernel_rfl
theorem Sa:aj Tryz.prog 47 4=some 4:=by kernel_rfl
theorem R9:aj Tryz.prog 47 5=some 5:=by kernel_rfl
theorem xr:aj Tryz.prog 47 6=some 6:=by kernel_rfl
theorem R8:aj Tryz.prog 47 8=some 8:=by kernel_rfl
theorem R7:aj Tryz.prog 49 0=some 0:=by kernel_rfl
theorem R6:aj Tryz.prog 49 1=some 1:=by kernel_rfl
theorem R5:aj Tryz.prog 49 2=some 2:=by kernel_rfl
theorem R4:aj Tryz.prog 49 3=some 3:=by kernel_rfl
theorem RZ:aj Tryz.prog 49 4=some 4:=by kernel_rfl
theorem RY:aj Tryz.prog 49 5=some 5:=by kernel_rfl
theorem RX:aj Tryz.prog 49 6=some 6:=by kernel_rfl
theorem RW:aj Tryz.prog 49 7=some 7:=by kernel_rfl
theorem RV:aj Tryz.prog 49 8=some 8:=by kernel_rfl
theorem RU:aj Tryz.prog 61 0=some 0:=by kernel_rfl
theorem RT:aj Tryz.prog 61 1=some 1:=by kernel_rfl
theorem RS:aj Tryz.prog 61 2=some 2:=by kernel_rfl
theorem RR:aj Tryz.prog 61 3=some 3:=by kernel_rfl
theorem RQ:aj Tryz.prog 61 4=some 4:=by kernel_rfl
theorem sq:aj Tryz.prog 63 0=some 0:=by kernel_rfl
theorem mL:aj Tryz.prog 63 1=some 11:=by kernel_rfl
theorem mK:aj Tryz.prog 73 0=some 0:=by kernel_rfl
theorem xq:aj Tryz.prog 73 1=some 1:=by kernel_rfl
theorem Da:aj Tryz.prog 73 2=some 2:=by kernel_rfl
theorem mJ:aj Tryz.prog 73 3=some 3:=by kernel_rfl
theorem so:aj Tryz.prog 73 4=some 4:=by kernel_rfl
theorem RP:aj Tryz.prog 73 5=some 5:=by kernel_rfl
theorem xp:aj Tryz.prog 73 6=some 6:=by kernel_rfl
theorem xn:aj Tryz.prog 73 7=some 7:=by kernel_rfl
theorem RN:aj Tryz.prog 94 0=some 0:=by kernel_rfl
theorem RM:aj Tryz.prog 94 2=some 2:=by kernel_rfl
theorem RL:aj Tryz.prog 94 3=some 3:=by kernel_rfl
theorem LW:aj Tryz.prog 100 2=some 2:=by kernel_rfl
theorem LV:aj Tryz.prog 100 3=some 3:=by kernel_rfl
theorem LU:aj Tryz.prog 100 5=some 5:=by kernel_rfl
theorem gB:aj Tryz.prog 100 6=some 6:=by kernel_rfl
theorem LS:aj Tryz.prog 109 0=some 0:=by kernel_rfl
theorem zI:aj Tryz.prog 109 1=some 1:=by kernel_rfl
theorem LR:aj Tryz.prog 109 2=some 2:=by kernel_rfl
theorem LQ:aj Tryz.prog 109 3=some 3:=by kernel_rfl
theorem zH:aj Tryz.prog 109 4=some 4:=by kernel_rfl
theorem tS:aj Tryz.prog 109 5=some 5:=by kernel_rfl
theorem zG:aj Tryz.prog 109 6=some 6:=by kernel_rfl
theorem ki:aj Tryz.prog 111 0=some 0:=by kernel_rfl
theorem LO:aj Tryz.prog 111 1=some 8:=by kernel_rfl
theorem zF:aj Tryz.prog 111 2=some 15:=by kernel_rfl
theorem LN:aj Tryz.prog 111 3=some 19:=by kernel_rfl
theorem LM:aj Tryz.prog 111 4=some 20:=by kernel_rfl
theorem fS:aj Tryz.prog 111 5=some 21:=by kernel_rfl
theorem LL:aj Tryz.prog 111 6=some 28:=by kernel_rfl
theorem LK:aj Tryz.prog 113 0=some 0:=by kernel_rfl
theorem LJ:aj Tryz.prog 136 0=some 0:=by kernel_rfl
theorem LI:aj Tryz.prog 136 1=some 7:=by kernel_rfl
theorem LH:aj Tryz.prog 136 2=some 8:=by kernel_rfl
theorem LG:aj Tryz.prog 136 3=some 9:=by kernel_rfl
theorem LF:aj Tryz.prog 136 4=some 10:=by kernel_rfl
theorem LD:aj Tryz.prog 136 5=some 11:=by kernel_rfl
theorem LC:aj Tryz.prog 139 0=some 0:=by kernel_rfl
theorem LB:aj Tryz.prog 139 1=some 1:=by kernel_rfl
theorem LA:aj Tryz.prog 141 0=some 0:=by kernel_rfl
theorem Lz:aj Tryz.prog 141 1=some 1:=by kernel_rfl
theorem Lw:aj Tryz.prog 141 2=some 2:=by kernel_rfl
theorem Lv:aj Tryz.prog 141 3=some 3:=by kernel_rfl
theorem Lu:aj Tryz.prog 145 0=some 0:=by kernel_rfl
theorem Lt:aj Tryz.prog 145 1=some 1:=by kernel_rfl
theorem Lr:aj Tryz.prog 145 2=some 2:=by kernel_rfl
theorem Lm:aj Tryz.prog 145 3=some 3:=by kernel_rfl
theorem Ll:aj Tryz.prog 145 4=some 4:=by kernel_rfl
theorem Lj:aj Tryz.prog 145 5=some 5:=by kernel_rfl
theorem Lh:aj Tryz.prog 145 6=some 6:=by kernel_rfl
theorem Lg:aj Tryz.prog 145 7=some 7:=by kernel_rfl
theorem Ld:aj Tryz.prog 170 0=some 0:=by kernel_rfl
theorem Lb:aj Tryz.prog 170 1=some 1:=by kernel_rfl
theorem La:aj Tryz.prog 170 2=some 2:=by kernel_rfl
theorem K9:aj Tryz.prog 170 3=some 3:=by kernel_rfl
theorem K8:aj Tryz.prog 170 4=some 4:=by kernel_rfl
theorem K7:aj Tryz.prog 170 5=some 5:=by kernel_rfl
theorem K6:aj Tryz.prog 170 6=some 6:=by kernel_rfl
theorem K5:aj Tryz.prog 170 7=some 7:=by kernel_rfl
theorem KZ:aj Tryz.prog 174 0=some 0:=by kernel_rfl
theorem KY:aj Tryz.prog 174 1=some 1:=by kernel_rfl
theorem KX:aj Tryz.prog 174 2=some 2:=by kernel_rfl
theorem KV:aj Tryz.prog 177 0=some 0:=by kernel_rfl
theorem KU:aj Tryz.prog 177 1=some 1:=by kernel_rfl
theorem KT:aj Tryz.prog 177 2=some 2:=by kernel_rfl
theorem KS:aj Tryz.prog 177 3=some 3:=by kernel_rfl
theorem KR:aj Tryz.prog 177 4=some 4:=by kernel_rfl
theorem KQ:aj Tryz.prog 177 5=some 5:=by kernel_rfl
theorem KP:aj Tryz.prog 177 6=some 6:=by kernel_rfl
theorem KL:aj Tryz.prog 177 7=some 7:=by kernel_rfl
theorem KK:aj Tryz.prog 177 8=some 8:=by kernel_rfl
theorem KJ:aj Tryz.prog 177 9=some 9:=by kernel_rfl
theorem Gp:aj Tryz.prog 177 10=some 10:=by kernel_rfl
theorem KI:aj Tryz.prog 192 0=some 0:=by kernel_rfl
theorem KH:aj Tryz.prog 192 1=some 1:=by kernel_rfl
theorem KG:aj Tryz.prog 197 0=some 0:=by kernel_rfl
theorem KF:aj Tryz.prog 197 1=some 1:=by kernel_rfl
theorem KE:aj Tryz.prog 197 2=some 2:=by kernel_rfl
theorem KC:aj Tryz.prog 199 3=some 3:=by kernel_rfl
theorem KB:aj Tryz.prog 201 0=some 0:=by kernel_rfl
theorem KA:aj Tryz.prog 201 5=some 5:=by kernel_rfl
theorem Kz:aj Tryz.prog 201 6=some 6:=by kernel_rfl
theorem Ky:aj Tryz.prog 224 0=some 0:=by kernel_rfl
theorem Kx:aj Tryz.prog 224 1=some 1:=by kernel_rfl
theorem Kw:aj Tryz.prog 224 2=some 2:=by kernel_rfl
theorem tR:aj Tryz.prog 224 3=some 3:=by kernel_rfl
theorem pU:aj Tryz.prog 224 4=some 4:=by kernel_rfl
theorem Kv:aj Tryz.prog 224 5=some 5:=by kernel_rfl
theorem Ku:aj Tryz.prog 224 6=some 6:=by kernel_rfl
theorem Kt:aj Tryz.prog 228 0=some 0:=by kernel_rfl
theorem Ks:aj Tryz.prog 228 1=some 1:=by kernel_rfl
theorem Kr:aj Tryz.prog 228 2=some 2:=by kernel_rfl
theorem Kq:aj Tryz.prog 228 3=some 3:=by kernel_rfl
theorem Kp:aj Tryz.prog 243 0=some 0:=by kernel_rfl
theorem zE:aj Tryz.prog 243 1=some 1:=by kernel_rfl
theorem Ko:aj Tryz.prog 243 2=some 2:=by kernel_rfl
theorem Kn:aj Tryz.prog 253 0=some 0:=by kernel_rfl
theorem Km:aj Tryz.prog 253 1=some 1:=by kernel_rfl
theorem Kl:aj Tryz.prog 253 2=some 2:=by kernel_rfl
theorem Kk:aj Tryz.prog 253 3=some 3:=by kernel_rfl
theorem Kj:aj Tryz.prog 279 0=some 0:=by kernel_rfl
theorem Ki:aj Tryz.prog 279 1=some 1:=by kernel_rfl
theorem Kh:aj Tryz.prog 310 0=some 0:=by kernel_rfl
theorem Kg:aj Tryz.prog 310 1=some 1:=by kernel_rfl
theorem Ke:aj Tryz.prog 310 2=some 2:=by kernel_rfl
theorem fn_6:ax Tryz.prog 6=true:=by kernel_rfl
theorem aef:ax Tryz.prog 8=true:=by kernel_rfl
theorem af9:ax Tryz.prog 10=true:=by kernel_rfl
theorem Hd:ax Tryz.prog 11=true:=by kernel_rfl
theorem NJ:ax Tryz.prog 12=true:=by kernel_rfl
theorem af8:ax Tryz.prog 13=true:=by kernel_rfl
theorem af7:ax Tryz.prog 14=true:=by kernel_rfl
theorem af6:ax Tryz.prog 15=true:=by kernel_rfl
theorem af5:ax Tryz.prog 16=true:=by kernel_rfl
theorem af4:ax Tryz.prog 17=true:=by kernel_rfl
theorem af3:ax Tryz.prog 18=true:=by kernel_rfl
theorem wx:ax Tryz.prog 19=true:=by kernel_rfl
theorem Yw:ax Tryz.prog 20=true:=by kernel_rfl
theorem af2:ax Tryz.prog 21=true:=by kernel_rfl
theorem af1:ax Tryz.prog 22=true:=by kernel_rfl
theorem af0:ax Tryz.prog 23=true:=by kernel_rfl
theorem afZ:ax Tryz.prog 24=true:=by kernel_rfl
theorem yS:ax Tryz.prog 25=true:=by kernel_rfl
theorem Yu:ax Tryz.prog 26=true:=by kernel_rfl
theorem Yt:ax Tryz.prog 27=true:=by kernel_rfl
theorem afY:ax Tryz.prog 28=true:=by kernel_rfl
theorem afX:ax Tryz.prog 29=true:=by kernel_rfl
theorem Ys:ax Tryz.prog 30=true:=by kernel_rfl
theorem afW:ax Tryz.prog 31=true:=by kernel_rfl
theorem afV:ax Tryz.prog 32=true:=by kernel_rfl
theorem afU:ax Tryz.prog 33=true:=by kernel_rfl
theorem rL:ax Tryz.prog 34=true:=by kernel_rfl
theorem afT:ax Tryz.prog 35=true:=by kernel_rfl
theorem Yr:ax Tryz.prog 36=true:=by kernel_rfl
theorem NI:ax Tryz.prog 37=true:=by kernel_rfl
theorem afS:ax Tryz.prog 38=true:=by kernel_rfl
theorem yR:ax Tryz.prog 39=true:=by kernel_rfl
theorem Yq:ax Tryz.prog 40=true:=by kernel_rfl
theorem Yp:ax Tryz.prog 41=true:=by kernel_rfl
theorem afR:ax Tryz.prog 42=true:=by kernel_rfl
theorem Hc:ax Tryz.prog 43=true:=by kernel_rfl
theorem afQ:ax Tryz.prog 44=true:=by kernel_rfl
theorem Yo:ax Tryz.prog 45=true:=by kernel_rfl
theorem iz:ax Tryz.prog 46=true:=by kernel_rfl
theorem afP:ax Tryz.prog 47=true:=by kernel_rfl
theorem afO:ax Tryz.prog 48=true:=by kernel_rfl
theorem afN:ax Tryz.prog 49=true:=by kernel_rfl
theorem afM:ax Tryz.prog 50=true:=by kernel_rfl
theorem NH:ax Tryz.prog 51=true:=by kernel_rfl
theorem Cj:ax Tryz.prog 52=true:=by kernel_rfl
theorem afL:ax Tryz.prog 53=true:=by kernel_rfl
theorem afK:ax Tryz.prog 54=true:=by kernel_rfl
theorem afJ:ax Tryz.prog 55=true:=by kernel_rfl
theorem afI:ax Tryz.prog 56=true:=by kernel_rfl
theorem afH:ax Tryz.prog 57=true:=by kernel_rfl
theorem afG:ax Tryz.prog 58=true:=by kernel_rfl
theorem afF:ax Tryz.prog 59=true:=by kernel_rfl
theorem Hb:ax Tryz.prog 60=true:=by kernel_rfl
theorem afE:ax Tryz.prog 61=true:=by kernel_rfl
theorem NG:ax Tryz.prog 62=true:=by kernel_rfl
theorem afD:ax Tryz.prog 63=true:=by kernel_rfl
theorem afC:ax Tryz.prog 64=true:=by kernel_rfl
theorem Yn:ax Tryz.prog 65=true:=by kernel_rfl
theorem Ha:ax Tryz.prog 66=true:=by kernel_rfl
theorem afB:ax Tryz.prog 67=true:=by kernel_rfl
theorem Ym:ax Tryz.prog 69=true:=by kernel_rfl
theorem Yl:ax Tryz.prog 70=true:=by kernel_rfl
theorem afA:ax Tryz.prog 71=true:=by kernel_rfl
theorem afz:ax Tryz.prog 72=true:=by kernel_rfl
theorem afy:ax Tryz.prog 73=true:=by kernel_rfl
theorem NF:ax Tryz.prog 74=true:=by kernel_rfl
theorem Yk:ax Tryz.prog 75=true:=by kernel_rfl
theorem Yj:ax Tryz.prog 76=true:=by kernel_rfl
theorem afx:ax Tryz.prog 77=true:=by kernel_rfl
theorem Yi:ax Tryz.prog 78=true:=by kernel_rfl
theorem um:ax Tryz.prog 79=true:=by kernel_rfl
theorem wv:ax Tryz.prog 80=true:=by kernel_rfl
theorem afw:ax Tryz.prog 81=true:=by kernel_rfl
theorem Yh:ax Tryz.prog 82=true:=by kernel_rfl
theorem Ci:ax Tryz.prog 83=true:=by kernel_rfl
theorem Ch:ax Tryz.prog 84=true:=by kernel_rfl
theorem Yg:ax Tryz.prog 85=true:=by kernel_rfl
theorem yQ:ax Tryz.prog 86=true:=by kernel_rfl
theorem Yf:ax Tryz.prog 87=true:=by kernel_rfl
theorem G9:ax Tryz.prog 88=true:=by kernel_rfl
theorem afv:ax Tryz.prog 89=true:=by kernel_rfl
theorem Ye:ax Tryz.prog 90=true:=by kernel_rfl
theorem afu:ax Tryz.prog 91=true:=by kernel_rfl
theorem Yd:ax Tryz.prog 92=true:=by kernel_rfl
theorem G8:ax Tryz.prog 93=true:=by kernel_rfl
theorem Cg:ax Tryz.prog 94=true:=by kernel_rfl
theorem aft:ax Tryz.prog 95=true:=by kernel_rfl
theorem afs:ax Tryz.prog 96=true:=by kernel_rfl
theorem afr:ax Tryz.prog 97=true:=by kernel_rfl
theorem Yc:ax Tryz.prog 98=true:=by kernel_rfl
theorem afq:ax Tryz.prog 99=true:=by kernel_rfl
theorem PC:ax Tryz.prog 100=true:=by kernel_rfl
theorem abP:ax Tryz.prog 101=true:=by kernel_rfl
theorem abO:ax Tryz.prog 103=true:=by kernel_rfl
theorem abN:ax Tryz.prog 107=true:=by kernel_rfl
theorem Fv:ax Tryz.prog 108=true:=by kernel_rfl
theorem Fu:ax Tryz.prog 109=true:=by kernel_rfl
theorem Ft:ax Tryz.prog 110=true:=by kernel_rfl
theorem abM:ax Tryz.prog 111=true:=by kernel_rfl
theorem abL:ax Tryz.prog 112=true:=by kernel_rfl
theorem abK:ax Tryz.prog 113=true:=by kernel_rfl
theorem abJ:ax Tryz.prog 114=true:=by kernel_rfl
theorem abI:ax Tryz.prog 115=true:=by kernel_rfl
theorem abH:ax Tryz.prog 116=true:=by kernel_rfl
theorem PB:ax Tryz.prog 117=true:=by kernel_rfl
theorem PA:ax Tryz.prog 118=true:=by kernel_rfl
theorem Fs:ax Tryz.prog 119=true:=by kernel_rfl
theorem abG:ax Tryz.prog 120=true:=by kernel_rfl
theorem fu:ax Tryz.prog 121=true:=by kernel_rfl
theorem abF:ax Tryz.prog 122=true:=by kernel_rfl
theorem abE:ax Tryz.prog 123=true:=by kernel_rfl
theorem Pz:ax Tryz.prog 125=true:=by kernel_rfl
theorem abD:ax Tryz.prog 126=true:=by kernel_rfl
theorem Py:ax Tryz.prog 127=true:=by kernel_rfl
theorem abC:ax Tryz.prog 128=true:=by kernel_rfl
theorem oY:ax Tryz.prog 129=true:=by kernel_rfl
theorem jj:ax Tryz.prog 130=true:=by kernel_rfl
theorem abB:ax Tryz.prog 131=true:=by kernel_rfl
theorem Fq:ax Tryz.prog 132=true:=by kernel_rfl
theorem AK:ax Tryz.prog 133=true:=by kernel_rfl
theorem abA:ax Tryz.prog 134=true:=by kernel_rfl
theorem qU:ax Tryz.prog 135=true:=by kernel_rfl
theorem abz:ax Tryz.prog 136=true:=by kernel_rfl
theorem aby:ax Tryz.prog 137=true:=by kernel_rfl
theorem Px:ax Tryz.prog 138=true:=by kernel_rfl
theorem Fo:ax Tryz.prog 139=true:=by kernel_rfl
theorem AJ:ax Tryz.prog 140=true:=by kernel_rfl
theorem AI:ax Tryz.prog 141=true:=by kernel_rfl
theorem abx:ax Tryz.prog 142=true:=by kernel_rfl
theorem Fm:ax Tryz.prog 143=true:=by kernel_rfl
theorem abw:ax Tryz.prog 144=true:=by kernel_rfl
theorem Fl:ax Tryz.prog 145=true:=by kernel_rfl
theorem abv:ax Tryz.prog 146=true:=by kernel_rfl
theorem abu:ax Tryz.prog 147=true:=by kernel_rfl
theorem abt:ax Tryz.prog 149=true:=by kernel_rfl
theorem Fk:ax Tryz.prog 150=true:=by kernel_rfl
theorem Pw:ax Tryz.prog 151=true:=by kernel_rfl
theorem Pu:ax Tryz.prog 152=true:=by kernel_rfl
theorem abr:ax Tryz.prog 153=true:=by kernel_rfl
theorem Fj:ax Tryz.prog 154=true:=by kernel_rfl
theorem Ps:ax Tryz.prog 155=true:=by kernel_rfl
theorem abq:ax Tryz.prog 156=true:=by kernel_rfl
theorem abp:ax Tryz.prog 157=true:=by kernel_rfl
theorem O9:ax Tryz.prog 158=true:=by kernel_rfl
theorem O8:ax Tryz.prog 159=true:=by kernel_rfl
theorem abo:ax Tryz.prog 160=true:=by kernel_rfl
theorem tm:ax Tryz.prog 161=true:=by kernel_rfl
theorem Fi:ax Tryz.prog 162=true:=by kernel_rfl
theorem Fh:ax Tryz.prog 163=true:=by kernel_rfl
theorem Fg:ax Tryz.prog 164=true:=by kernel_rfl
theorem abn:ax Tryz.prog 165=true:=by kernel_rfl
theorem O0:ax Tryz.prog 166=true:=by kernel_rfl
theorem abm:ax Tryz.prog 167=true:=by kernel_rfl
theorem AH:ax Tryz.prog 168=true:=by kernel_rfl
theorem abl:ax Tryz.prog 169=true:=by kernel_rfl
theorem OZ:ax Tryz.prog 170=true:=by kernel_rfl
theorem abk:ax Tryz.prog 171=true:=by kernel_rfl
theorem AG:ax Tryz.prog 172=true:=by kernel_rfl
theorem AF:ax Tryz.prog 173=true:=by kernel_rfl
theorem abj:ax Tryz.prog 174=true:=by kernel_rfl
theorem AE:ax Tryz.prog 175=true:=by kernel_rfl
theorem OY:ax Tryz.prog 176=true:=by kernel_rfl
theorem Ff:ax Tryz.prog 177=true:=by kernel_rfl
theorem OX:ax Tryz.prog 178=true:=by kernel_rfl
theorem abi:ax Tryz.prog 179=true:=by kernel_rfl
theorem abh:ax Tryz.prog 183=true:=by kernel_rfl
theorem OW:ax Tryz.prog 184=true:=by kernel_rfl
theorem abg:ax Tryz.prog 185=true:=by kernel_rfl
theorem OV:ax Tryz.prog 192=true:=by kernel_rfl
theorem OU:ax Tryz.prog 193=true:=by kernel_rfl
theorem abf:ax Tryz.prog 194=true:=by kernel_rfl
theorem Fe:ax Tryz.prog 195=true:=by kernel_rfl
theorem OT:ax Tryz.prog 196=true:=by kernel_rfl
theorem abe:ax Tryz.prog 197=true:=by kernel_rfl
theorem Fc:ax Tryz.prog 198=true:=by kernel_rfl
theorem abd:ax Tryz.prog 199=true:=by kernel_rfl
theorem abc:ax Tryz.prog 200=true:=by kernel_rfl
theorem OS:ax Tryz.prog 201=true:=by kernel_rfl
theorem abb:ax Tryz.prog 202=true:=by kernel_rfl
theorem aba:ax Tryz.prog 203=true:=by kernel_rfl
theorem aa9:ax Tryz.prog 204=true:=by kernel_rfl
theorem aa8:ax Tryz.prog 207=true:=by kernel_rfl
theorem aa7:ax Tryz.prog 208=true:=by kernel_rfl
theorem aa6:ax Tryz.prog 209=true:=by kernel_rfl
theorem AD:ax Tryz.prog 210=true:=by kernel_rfl
theorem aa5:ax Tryz.prog 211=true:=by kernel_rfl
theorem kL:ax Tryz.prog 212=true:=by kernel_rfl
theorem OR:ax Tryz.prog 213=true:=by kernel_rfl
theorem OQ:ax Tryz.prog 214=true:=by kernel_rfl
theorem aa4:ax Tryz.prog 215=true:=by kernel_rfl
theorem nw:ax Tryz.prog 216=true:=by kernel_rfl
theorem OP:ax Tryz.prog 217=true:=by kernel_rfl
theorem OO:ax Tryz.prog 218=true:=by kernel_rfl
theorem wN:ax Tryz.prog 219=true:=by kernel_rfl
theorem AB:ax Tryz.prog 220=true:=by kernel_rfl
theorem wM:ax Tryz.prog 221=true:=by kernel_rfl
theorem Fb:ax Tryz.prog 222=true:=by kernel_rfl
theorem tj:ax Tryz.prog 223=true:=by kernel_rfl
theorem ON:ax Tryz.prog 224=true:=by kernel_rfl
theorem AA:ax Tryz.prog 225=true:=by kernel_rfl
theorem E9:ax Tryz.prog 226=true:=by kernel_rfl
theorem OM:ax Tryz.prog 227=true:=by kernel_rfl
theorem OL:ax Tryz.prog 228=true:=by kernel_rfl
theorem OK:ax Tryz.prog 231=true:=by kernel_rfl
theorem aa3:ax Tryz.prog 236=true:=by kernel_rfl
theorem aa2:ax Tryz.prog 237=true:=by kernel_rfl
theorem aa1:ax Tryz.prog 238=true:=by kernel_rfl
theorem aa0:ax Tryz.prog 239=true:=by kernel_rfl
theorem OJ:ax Tryz.prog 240=true:=by kernel_rfl
theorem OI:ax Tryz.prog 241=true:=by kernel_rfl
theorem OH:ax Tryz.prog 252=true:=by kernel_rfl
theorem OG:ax Tryz.prog 253=true:=by kernel_rfl
theorem aaZ:ax Tryz.prog 254=true:=by kernel_rfl
theorem aaY:ax Tryz.prog 255=true:=by kernel_rfl
theorem OE:ax Tryz.prog 257=true:=by kernel_rfl
end Go.Proofs.YtdolmecackmjdaaGreatDoor.T
