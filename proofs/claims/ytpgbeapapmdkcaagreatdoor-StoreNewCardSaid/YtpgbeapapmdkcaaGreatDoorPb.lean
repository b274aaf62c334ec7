/- Part Pb of the proof. -/
import Derived.Test.YtpgbeapapmdkcaaGreatDoorPa
import Derived.KernelRfl
import Derived.Test.YtpgbeapapmdkcaaGreatDoorProg
set_option maxRecDepth 100000
namespace Go.Proofs.YtpgbeapapmdkcaaGreatDoor.T
open Go Go.cQ
theorem mix : Tryz.prog.follows .mixedOrders = true := by kernel_rfl
theorem WY : Tryz.prog.underlying 3 = some (.int .i64) := by kernel_rfl
theorem NL : (Tryz.prog.underlying 3).isSome = true := by kernel_rfl
theorem eL : cB Tryz.prog 3 = true := by kernel_rfl
theorem XP : bF Tryz.prog 3 = some [(.int .i64 0)] := by kernel_rfl
theorem u_4 : Tryz.prog.underlying 4 = some .bool := by kernel_rfl
theorem XT : cB Tryz.prog 4 = true := by kernel_rfl
theorem og : Tryz.prog.underlying 5 = some (.int .u8) := by kernel_rfl
theorem Sz : (Tryz.prog.underlying 5).isSome = true := by kernel_rfl
theorem xZ : cB Tryz.prog 5 = true := by kernel_rfl
theorem qW : Tryz.prog.underlying 9 = some .string := by kernel_rfl
theorem sc_9 : cB Tryz.prog 9 = true := by kernel_rfl
theorem CG : cn Tryz.prog 23 = some 7 := by kernel_rfl
theorem YR : gu Tryz.prog 23 = some [(0, 1), (1, 1), (2, 1), (3, 1), (4, 1), (5, 1), (6, 1)] := by kernel_rfl
theorem HT : bF Tryz.prog 23 = some [(.int .i64 0), (.int .i64 0), (.int .i64 0), (.int .i64 0), (.int .i64 0), (.int .i64 0), (.int .i64 0)] := by kernel_rfl
theorem Z7 : cn Tryz.prog 25 = some 4 := by kernel_rfl
theorem YQ : gu Tryz.prog 25 = some [(0, 1), (1, 1), (2, 1), (3, 1)] := by kernel_rfl
theorem QU : bF Tryz.prog 25 = some [(.int .i64 0), (.int .i64 0), (.int .i64 0), (.int .i64 0)] := by kernel_rfl
theorem u_28 : Tryz.prog.underlying 28 = some (.pointer 111) := by kernel_rfl
theorem Y1 : cB Tryz.prog 28 = true := by kernel_rfl
theorem HX : cH Tryz.prog 36 = some (28, 1) := by kernel_rfl
theorem RT : om Tryz.prog 36 = some (28, 1, 8, [(.pointer none)]) := by kernel_rfl
theorem Zb : je Tryz.prog 36 = true := by kernel_rfl
theorem HG : Tryz.prog.underlying 38 = some (.int .u64) := by kernel_rfl
theorem Cp : (Tryz.prog.underlying 38).isSome = true := by kernel_rfl
theorem HY : cB Tryz.prog 38 = true := by kernel_rfl
theorem iG : cn Tryz.prog 41 = some 5 := by kernel_rfl
theorem YP : gu Tryz.prog 41 = some [(0, 1), (1, 1), (2, 1), (3, 1), (4, 1)] := by kernel_rfl
theorem qq : bF Tryz.prog 41 = some [(.int .i64 0), (.slice none 0 0), (.int .u64 0), (.string { data := #[] }), (.slice none 0 0)] := by kernel_rfl
theorem Y0 : cB Tryz.prog 43 = true := by kernel_rfl
theorem Cq : cH Tryz.prog 43 = some (9, 1) := by kernel_rfl
theorem CF : om Tryz.prog 43 = some (9, 1, 16, [(.string { data := #[] })]) := by kernel_rfl
theorem jx : Tryz.prog.underlying 44 = some (.slice 5) := by kernel_rfl
theorem yc : cB Tryz.prog 44 = true := by kernel_rfl
theorem iD : cH Tryz.prog 44 = some (5, 1) := by kernel_rfl
theorem iX : om Tryz.prog 44 = some (5, 1, 1, [(.int .u8 0)]) := by kernel_rfl
theorem r9 : je Tryz.prog 44 = true := by kernel_rfl
theorem Z6 : cn Tryz.prog 47 = some 11 := by kernel_rfl
theorem YO : gu Tryz.prog 47 = some [(0, 1), (1, 1), (2, 1), (3, 1), (4, 1), (5, 1), (6, 1), (7, 1), (8, 1), (9, 1), (10, 1)] := by kernel_rfl
theorem Yu : bF Tryz.prog 47 = some [(.int .i64 0), (.slice none 0 0), (.int .u64 0), (.int .i64 0), (.int .u64 0), (.int .u64 0), (.slice none 0 0), (.bool false), (.bool false), (.slice none 0 0), (.string { data := #[] })] := by kernel_rfl
theorem nt : cn Tryz.prog 49 = some 9 := by kernel_rfl
theorem YN : gu Tryz.prog 49 = some [(0, 1), (1, 1), (2, 1), (3, 1), (4, 1), (5, 1), (6, 1), (7, 1), (8, 1)] := by kernel_rfl
theorem ya : bF Tryz.prog 49 = some [(.string { data := #[] }), (.slice none 0 0), (.int .u64 0), (.int .i64 0), (.int .u64 0), (.int .i64 0), (.bool false), (.bool false), (.bool false)] := by kernel_rfl
theorem QZ : cB Tryz.prog 55 = true := by kernel_rfl
theorem nm : cH Tryz.prog 55 = some (3, 1) := by kernel_rfl
theorem dZ : om Tryz.prog 55 = some (3, 1, 8, [(.int .i64 0)]) := by kernel_rfl
theorem lZ : je Tryz.prog 55 = true := by kernel_rfl
theorem u_79 : Tryz.prog.underlying 79 = some (.pointer 136) := by kernel_rfl
theorem YZ : cB Tryz.prog 79 = true := by kernel_rfl
theorem u_82 : Tryz.prog.underlying 82 = some (.pointer 139) := by kernel_rfl
theorem YY : cB Tryz.prog 82 = true := by kernel_rfl
theorem YX : cB Tryz.prog 85 = true := by kernel_rfl
theorem Yt : bF Tryz.prog 88 = some [(.int .i64 0), (.int .i64 0), (.int .i64 0), (.int .i64 0)] := by kernel_rfl
theorem Z4 : Aj Tryz.prog 88 = some (4, 3, 1) := by kernel_rfl
theorem YW : cB Tryz.prog 89 = true := by kernel_rfl
theorem YM : gu Tryz.prog 94 = some [(0, 1), (1, 1), (2, 1), (3, 1)] := by kernel_rfl
theorem Ys : bF Tryz.prog 94 = some [(.int .i64 0), (.int .u64 0), (.int .u64 0), (.int .i64 0)] := by kernel_rfl
theorem YV : cB Tryz.prog 95 = true := by kernel_rfl
theorem RS : om Tryz.prog 95 = some (55, 1, 24, [(.slice none 0 0)]) := by kernel_rfl
theorem Za : je Tryz.prog 95 = true := by kernel_rfl
theorem YU : cB Tryz.prog 97 = true := by kernel_rfl
theorem RR : om Tryz.prog 97 = some (103, 3, 72, [(.slice none 0 0), (.slice none 0 0), (.slice none 0 0)]) := by kernel_rfl
theorem Y9 : je Tryz.prog 97 = true := by kernel_rfl
theorem Ws : cn Tryz.prog 100 = some 7 := by kernel_rfl
theorem TY : gu Tryz.prog 100 = some [(0, 1), (1, 1), (2, 1), (3, 1), (4, 1), (5, 1), (6, 1)] := by kernel_rfl
theorem Tt : bF Tryz.prog 100 = some [(.int .i64 0), (.int .i64 0), (.int .i64 0), (.int .i64 0), (.int .i64 0), (.int .i64 0), (.int .i64 0)] := by kernel_rfl
theorem TX : gu Tryz.prog 102 = some [(0, 7), (7, 4), (11, 1), (12, 1), (13, 1), (14, 1), (15, 1), (16, 1), (17, 1), (18, 1), (19, 1), (20, 1), (21, 1), (22, 1), (23, 1), (24, 1), (25, 1), (26, 1), (27, 1), (28, 1), (29, 1), (30, 1), (31, 1), (32, 1), (33, 7), (40, 1)] := by kernel_rfl
theorem Tq : bF Tryz.prog 102 = some [(.int .i64 0), (.int .i64 0), (.int .i64 0), (.int .i64 0), (.int .i64 0), (.int .i64 0), (.int .i64 0), (.int .i64 0), (.int .i64 0), (.int .i64 0), (.int .i64 0), (.slice none 0 0), (.slice none 0 0), (.slice none 0 0), (.slice none 0 0), (.slice none 0 0), (.slice none 0 0), (.int .i64 0), (.int .u64 0), (.int .u64 0), (.int .i64 0), (.int .i64 0), (.int .i64 0), (.int .i64 0), (.int .i64 0), (.int .i64 0), (.int .i64 0), (.pointer none), (.int .i64 0), (.bool false), (.slice none 0 0), (.int .i64 0), (.int .i64 0), (.int .i64 0), (.int .i64 0), (.int .i64 0), (.int .i64 0), (.int .i64 0), (.int .i64 0), (.int .i64 0), (.slice none 0 0)] := by kernel_rfl
theorem To : bF Tryz.prog 103 = some [(.slice none 0 0), (.slice none 0 0), (.slice none 0 0)] := by kernel_rfl
theorem Wp : Aj Tryz.prog 103 = some (3, 96, 1) := by kernel_rfl
theorem AJ : cB Tryz.prog 104 = true := by kernel_rfl
theorem YI : Tryz.prog.underlying 105 = some (.pointer 197) := by kernel_rfl
theorem AI : cB Tryz.prog 105 = true := by kernel_rfl
theorem AH : cB Tryz.prog 106 = true := by kernel_rfl
theorem pG : cB Tryz.prog 107 = true := by kernel_rfl
theorem TW : gu Tryz.prog 109 = some [(0, 1), (1, 1), (2, 1), (3, 1), (4, 1), (5, 1), (6, 1), (7, 1)] := by kernel_rfl
theorem Tl : bF Tryz.prog 109 = some [(.pointer none), (.pointer none), (.pointer none), (.pointer none), (.pointer none), (.pointer none), (.pointer none), (.pointer none)] := by kernel_rfl
theorem TV : gu Tryz.prog 111 = some [(0, 8), (8, 7), (15, 4), (19, 1), (20, 1), (21, 7), (28, 1)] := by kernel_rfl
theorem Tk : bF Tryz.prog 111 = some [(.pointer none), (.pointer none), (.pointer none), (.pointer none), (.pointer none), (.pointer none), (.pointer none), (.pointer none), (.int .i64 0), (.int .i64 0), (.int .i64 0), (.int .i64 0), (.int .i64 0), (.int .i64 0), (.int .i64 0), (.int .i64 0), (.int .i64 0), (.int .i64 0), (.int .i64 0), (.int .u64 0), (.int .i64 0), (.int .i64 0), (.int .i64 0), (.int .i64 0), (.int .i64 0), (.int .i64 0), (.int .i64 0), (.int .i64 0), (.slice none 0 0)] := by kernel_rfl
theorem Bj : cn Tryz.prog 113 = some 5 := by kernel_rfl
theorem TU : gu Tryz.prog 113 = some [(0, 5)] := by kernel_rfl
theorem Az : bF Tryz.prog 113 = some [(.int .i64 0), (.slice none 0 0), (.int .u64 0), (.string { data := #[] }), (.slice none 0 0)] := by kernel_rfl
theorem YH : Tryz.prog.underlying 117 = some (.int .u64) := by kernel_rfl
theorem AD : (Tryz.prog.underlying 117).isSome = true := by kernel_rfl
theorem Ul : cB Tryz.prog 117 = true := by kernel_rfl
theorem Uk : cB Tryz.prog 120 = true := by kernel_rfl
theorem YG : Tryz.prog.underlying 130 = some (.pointer 192) := by kernel_rfl
theorem Uj : cB Tryz.prog 130 = true := by kernel_rfl
theorem Ui : cB Tryz.prog 133 = true := by kernel_rfl
theorem T7 : cH Tryz.prog 133 = some (224, 7) := by kernel_rfl
theorem JV : om Tryz.prog 133 = some (224, 7, 80, [(.bool false), (.bool false), (.int .i64 0), (.slice none 0 0), (.slice none 0 0), (.int .i64 0), (.map none)]) := by kernel_rfl
theorem Uh : cB Tryz.prog 134 = true := by kernel_rfl
theorem T6 : cH Tryz.prog 134 = some (253, 4) := by kernel_rfl
theorem JU : om Tryz.prog 134 = some (253, 4, 48, [(.slice none 0 0), (.int .i64 0), (.int .i64 0), (.int .i64 0)]) := by kernel_rfl
theorem ID : gu Tryz.prog 136 = some [(0, 7), (7, 1), (8, 1), (9, 1), (10, 1), (11, 1)] := by kernel_rfl
theorem Iu : bF Tryz.prog 136 = some [(.int .i64 0), (.int .i64 0), (.int .i64 0), (.int .i64 0), (.int .i64 0), (.int .i64 0), (.int .i64 0), (.pointer none), (.slice none 0 0), (.slice none 0 0), (.slice none 0 0), (.int .i64 0)] := by kernel_rfl
theorem Ug : cB Tryz.prog 137 = true := by kernel_rfl
theorem T5 : cH Tryz.prog 137 = some (327, 9) := by kernel_rfl
theorem Wq : om Tryz.prog 137 = some (327, 9, 72, [(.int .u64 0), (.int .u64 0), (.int .i64 0), (.int .u64 0), (.int .u64 0), (.int .i64 0), (.int .u64 0), (.int .u64 0), (.int .i64 0)]) := by kernel_rfl
theorem TS : gu Tryz.prog 139 = some [(0, 1), (1, 1)] := by kernel_rfl
theorem Tj : bF Tryz.prog 139 = some [(.pointer none), (.slice none 0 0)] := by kernel_rfl
theorem TR : gu Tryz.prog 141 = some [(0, 1), (1, 1), (2, 1), (3, 1)] := by kernel_rfl
theorem Th : bF Tryz.prog 141 = some [(.pointer none), (.pointer none), (.int .i64 0), (.int .i64 0)] := by kernel_rfl
theorem wv : cB Tryz.prog 143 = true := by kernel_rfl
theorem T0 : cH Tryz.prog 143 = some (163, 1) := by kernel_rfl
theorem wP : om Tryz.prog 143 = some (163, 1, 4, [(.int .u32 0)]) := by kernel_rfl
theorem TQ : gu Tryz.prog 145 = some [(0, 1), (1, 1), (2, 1), (3, 1), (4, 1), (5, 1), (6, 1), (7, 1)] := by kernel_rfl
theorem Tg : bF Tryz.prog 145 = some [(.pointer none), (.int .i64 0), (.int .i64 0), (.int .i64 0), (.slice none 0 0), (.slice none 0 0), (.int .i64 0), (.int .i64 0)] := by kernel_rfl
theorem Uf : cB Tryz.prog 151 = true := by kernel_rfl
theorem HU : Tryz.prog.underlying 163 = some (.int .u32) := by kernel_rfl
theorem AB : (Tryz.prog.underlying 163).isSome = true := by kernel_rfl
theorem ma : cB Tryz.prog 163 = true := by kernel_rfl
theorem cU : cn Tryz.prog 170 = some 8 := by kernel_rfl
theorem dE : gu Tryz.prog 170 = some [(0, 1), (1, 1), (2, 1), (3, 1), (4, 1), (5, 1), (6, 1), (7, 1)] := by kernel_rfl
theorem bA : bF Tryz.prog 170 = some [(.slice none 0 0), (.slice none 0 0), (.int .u64 0), (.int .i64 0), (.int .i64 0), (.int .u64 0), (.int .i64 0), (.int .i64 0)] := by kernel_rfl
theorem TP : gu Tryz.prog 174 = some [(0, 1), (1, 1), (2, 1)] := by kernel_rfl
theorem Tf : bF Tryz.prog 174 = some [(.int .i64 0), (.int .i64 0), (.int .u64 0)] := by kernel_rfl
theorem IF : cH Tryz.prog 175 = some (117, 1) := by kernel_rfl
theorem JT : om Tryz.prog 175 = some (117, 1, 8, [(.int .u64 0)]) := by kernel_rfl
theorem UE : je Tryz.prog 175 = true := by kernel_rfl
theorem TN : gu Tryz.prog 177 = some [(0, 1), (1, 1), (2, 1), (3, 1), (4, 1), (5, 1), (6, 1), (7, 1), (8, 1), (9, 1), (10, 1)] := by kernel_rfl
theorem Te : bF Tryz.prog 177 = some [(.pointer none), (.pointer none), (.int .i64 0), .nilFunc, .nilFunc, (.int .i64 0), (.bool false), (.int .i64 0), (.int .i64 0), (.int .u64 0), (.int .i64 0)] := by kernel_rfl
theorem Ue : cB Tryz.prog 180 = true := by kernel_rfl
theorem YF : Tryz.prog.underlying 190 = some (.int .u64) := by kernel_rfl
theorem TM : gu Tryz.prog 192 = some [(0, 1), (1, 1)] := by kernel_rfl
theorem Td : bF Tryz.prog 192 = some [(.int .i64 0), (.slice none 0 0)] := by kernel_rfl
theorem Ud : cB Tryz.prog 194 = true := by kernel_rfl
theorem Uc : cB Tryz.prog 195 = true := by kernel_rfl
theorem fL : cH Tryz.prog 195 = some (243, 3) := by kernel_rfl
theorem wO : om Tryz.prog 195 = some (243, 3, 24, [(.int .u64 0), (.int .i64 0), (.int .u64 0)]) := by kernel_rfl
theorem IN : je Tryz.prog 195 = true := by kernel_rfl
theorem TJ : gu Tryz.prog 197 = some [(0, 1), (1, 1), (2, 1)] := by kernel_rfl
theorem Tc : bF Tryz.prog 197 = some [(.slice none 0 0), (.map none), (.int .u64 0)] := by kernel_rfl
theorem TI : gu Tryz.prog 201 = some [(0, 1), (1, 1), (2, 1), (3, 1), (4, 1), (5, 1), (6, 4)] := by kernel_rfl
theorem Ta : bF Tryz.prog 201 = some [(.pointer none), .nilFunc, .nilFunc, .nilFunc, (.slice none 0 0), (.int .i64 0), (.int .i64 0), (.int .i64 0), (.int .i64 0), (.bool false)] := by kernel_rfl
theorem wu : cB Tryz.prog 221 = true := by kernel_rfl
theorem TZ : cH Tryz.prog 221 = some (4, 1) := by kernel_rfl
theorem Bh : om Tryz.prog 221 = some (4, 1, 1, [(.bool false)]) := by kernel_rfl
theorem Ub : cB Tryz.prog 222 = true := by kernel_rfl
theorem Bi : cn Tryz.prog 228 = some 4 := by kernel_rfl
theorem TH : gu Tryz.prog 228 = some [(0, 1), (1, 1), (2, 1), (3, 1)] := by kernel_rfl
theorem gO : bF Tryz.prog 228 = some [(.pointer none), (.int .i64 0), (.int .i64 0), (.int .i64 0)] := by kernel_rfl
theorem sK : cn Tryz.prog 243 = some 3 := by kernel_rfl
theorem TG : gu Tryz.prog 243 = some [(0, 1), (1, 1), (2, 1)] := by kernel_rfl
theorem wj : bF Tryz.prog 243 = some [(.int .u64 0), (.int .i64 0), (.int .u64 0)] := by kernel_rfl
theorem YE : Tryz.prog.underlying 260 = some (.pointer 310) := by kernel_rfl
theorem Ua : cB Tryz.prog 277 = true := by kernel_rfl
theorem Wr : cn Tryz.prog 279 = some 2 := by kernel_rfl
theorem TF : gu Tryz.prog 279 = some [(0, 1), (1, 1)] := by kernel_rfl
theorem Is : bF Tryz.prog 279 = some [(.int .i64 0), .nilFunc] := by kernel_rfl
theorem JY : cn Tryz.prog 280 = some 6 := by kernel_rfl
theorem Ir : bF Tryz.prog 280 = some [(.int .i64 0), .nilFunc, (.int .i64 0), .nilFunc, (.int .i64 0), .nilFunc] := by kernel_rfl
theorem Wo : Aj Tryz.prog 280 = some (3, 279, 2) := by kernel_rfl
theorem Wn : Aj Tryz.prog 327 = some (3, 310, 3) := by kernel_rfl
theorem Mh : ak Tryz.prog 23 0 = some 0 := by kernel_rfl
theorem tg : ak Tryz.prog 23 1 = some 1 := by kernel_rfl
theorem Mg : ak Tryz.prog 23 2 = some 2 := by kernel_rfl
theorem Md : ak Tryz.prog 23 3 = some 3 := by kernel_rfl
theorem Mc : ak Tryz.prog 23 4 = some 4 := by kernel_rfl
theorem Mb : ak Tryz.prog 23 5 = some 5 := by kernel_rfl
theorem L9 : ak Tryz.prog 23 6 = some 6 := by kernel_rfl
theorem L8 : ak Tryz.prog 25 0 = some 0 := by kernel_rfl
theorem L7 : ak Tryz.prog 25 1 = some 1 := by kernel_rfl
theorem L6 : ak Tryz.prog 25 2 = some 2 := by kernel_rfl
theorem y7 : ak Tryz.prog 25 3 = some 3 := by kernel_rfl
theorem L5 : ak Tryz.prog 41 0 = some 0 := by kernel_rfl
theorem L4 : ak Tryz.prog 47 0 = some 0 := by kernel_rfl
theorem L3 : ak Tryz.prog 47 1 = some 1 := by kernel_rfl
theorem y6 : ak Tryz.prog 47 2 = some 2 := by kernel_rfl
theorem LZ : ak Tryz.prog 47 3 = some 3 := by kernel_rfl
theorem LY : ak Tryz.prog 47 4 = some 4 := by kernel_rfl
theorem y5 : ak Tryz.prog 47 6 = some 6 := by kernel_rfl
theorem LX : ak Tryz.prog 47 8 = some 8 := by kernel_rfl
theorem LW : ak Tryz.prog 49 1 = some 1 := by kernel_rfl
theorem LV : ak Tryz.prog 49 2 = some 2 := by kernel_rfl
theorem LU : ak Tryz.prog 49 4 = some 4 := by kernel_rfl
theorem LS : ak Tryz.prog 94 0 = some 0 := by kernel_rfl
theorem LR : ak Tryz.prog 94 2 = some 2 := by kernel_rfl
theorem LQ : ak Tryz.prog 94 3 = some 3 := by kernel_rfl
theorem GW : ak Tryz.prog 100 2 = some 2 := by kernel_rfl
theorem GV : ak Tryz.prog 100 3 = some 3 := by kernel_rfl
theorem GU : ak Tryz.prog 100 5 = some 5 := by kernel_rfl
theorem fe : ak Tryz.prog 100 6 = some 6 := by kernel_rfl
theorem GS : ak Tryz.prog 102 3 = some 12 := by kernel_rfl
theorem GR : ak Tryz.prog 102 4 = some 13 := by kernel_rfl
theorem GQ : ak Tryz.prog 102 5 = some 14 := by kernel_rfl
theorem GP : ak Tryz.prog 102 7 = some 16 := by kernel_rfl
theorem BV : ak Tryz.prog 102 15 = some 24 := by kernel_rfl
theorem BU : ak Tryz.prog 102 21 = some 30 := by kernel_rfl
theorem GO : ak Tryz.prog 109 0 = some 0 := by kernel_rfl
theorem vN : ak Tryz.prog 109 1 = some 1 := by kernel_rfl
theorem GN : ak Tryz.prog 109 2 = some 2 := by kernel_rfl
theorem GM : ak Tryz.prog 109 3 = some 3 := by kernel_rfl
theorem vM : ak Tryz.prog 109 4 = some 4 := by kernel_rfl
theorem qh : ak Tryz.prog 109 5 = some 5 := by kernel_rfl
theorem vL : ak Tryz.prog 109 6 = some 6 := by kernel_rfl
theorem iQ : ak Tryz.prog 111 0 = some 0 := by kernel_rfl
theorem GL : ak Tryz.prog 111 1 = some 8 := by kernel_rfl
theorem vK : ak Tryz.prog 111 2 = some 15 := by kernel_rfl
theorem GK : ak Tryz.prog 111 3 = some 19 := by kernel_rfl
theorem GJ : ak Tryz.prog 111 4 = some 20 := by kernel_rfl
theorem eG : ak Tryz.prog 111 5 = some 21 := by kernel_rfl
theorem GI : ak Tryz.prog 111 6 = some 28 := by kernel_rfl
theorem GH : ak Tryz.prog 113 0 = some 0 := by kernel_rfl
theorem GG : ak Tryz.prog 136 0 = some 0 := by kernel_rfl
theorem GF : ak Tryz.prog 136 1 = some 7 := by kernel_rfl
theorem GD : ak Tryz.prog 136 2 = some 8 := by kernel_rfl
theorem GC : ak Tryz.prog 136 3 = some 9 := by kernel_rfl
theorem GB : ak Tryz.prog 136 4 = some 10 := by kernel_rfl
theorem GA : ak Tryz.prog 136 5 = some 11 := by kernel_rfl
theorem Gz : ak Tryz.prog 139 0 = some 0 := by kernel_rfl
theorem Gy : ak Tryz.prog 139 1 = some 1 := by kernel_rfl
theorem Gx : ak Tryz.prog 141 0 = some 0 := by kernel_rfl
theorem Gw : ak Tryz.prog 141 1 = some 1 := by kernel_rfl
theorem Gu : ak Tryz.prog 141 2 = some 2 := by kernel_rfl
theorem Gt : ak Tryz.prog 141 3 = some 3 := by kernel_rfl
theorem Gs : ak Tryz.prog 145 0 = some 0 := by kernel_rfl
theorem Gr : ak Tryz.prog 145 1 = some 1 := by kernel_rfl
theorem Gq : ak Tryz.prog 145 2 = some 2 := by kernel_rfl
theorem Gp : ak Tryz.prog 145 3 = some 3 := by kernel_rfl
theorem Gn : ak Tryz.prog 145 4 = some 4 := by kernel_rfl
theorem Gm : ak Tryz.prog 145 5 = some 5 := by kernel_rfl
theorem Gl : ak Tryz.prog 145 6 = some 6 := by kernel_rfl
theorem Gk : ak Tryz.prog 145 7 = some 7 := by kernel_rfl
theorem Gj : ak Tryz.prog 170 0 = some 0 := by kernel_rfl
theorem Gi : ak Tryz.prog 170 1 = some 1 := by kernel_rfl
theorem Gh : ak Tryz.prog 170 2 = some 2 := by kernel_rfl
theorem Gg : ak Tryz.prog 170 3 = some 3 := by kernel_rfl
theorem Gf : ak Tryz.prog 170 4 = some 4 := by kernel_rfl
theorem Ge : ak Tryz.prog 170 5 = some 5 := by kernel_rfl
theorem Gd : ak Tryz.prog 170 6 = some 6 := by kernel_rfl
theorem Gc : ak Tryz.prog 170 7 = some 7 := by kernel_rfl
theorem Gb : ak Tryz.prog 174 0 = some 0 := by kernel_rfl
theorem Ga : ak Tryz.prog 174 2 = some 2 := by kernel_rfl
theorem F9 : ak Tryz.prog 177 0 = some 0 := by kernel_rfl
theorem F8 : ak Tryz.prog 177 1 = some 1 := by kernel_rfl
theorem F7 : ak Tryz.prog 177 2 = some 2 := by kernel_rfl
theorem FZ : ak Tryz.prog 177 3 = some 3 := by kernel_rfl
theorem FY : ak Tryz.prog 177 4 = some 4 := by kernel_rfl
theorem FX : ak Tryz.prog 177 5 = some 5 := by kernel_rfl
theorem FW : ak Tryz.prog 177 6 = some 6 := by kernel_rfl
theorem FV : ak Tryz.prog 177 7 = some 7 := by kernel_rfl
theorem FU : ak Tryz.prog 177 8 = some 8 := by kernel_rfl
theorem FT : ak Tryz.prog 177 9 = some 9 := by kernel_rfl
theorem BT : ak Tryz.prog 177 10 = some 10 := by kernel_rfl
theorem FR : ak Tryz.prog 192 0 = some 0 := by kernel_rfl
theorem FQ : ak Tryz.prog 192 1 = some 1 := by kernel_rfl
theorem FP : ak Tryz.prog 197 0 = some 0 := by kernel_rfl
theorem FO : ak Tryz.prog 197 1 = some 1 := by kernel_rfl
theorem FN : ak Tryz.prog 197 2 = some 2 := by kernel_rfl
theorem FM : ak Tryz.prog 199 3 = some 3 := by kernel_rfl
theorem FL : ak Tryz.prog 201 0 = some 0 := by kernel_rfl
theorem FK : ak Tryz.prog 201 5 = some 5 := by kernel_rfl
theorem FJ : ak Tryz.prog 201 6 = some 6 := by kernel_rfl
theorem FI : ak Tryz.prog 224 0 = some 0 := by kernel_rfl
theorem FH : ak Tryz.prog 224 1 = some 1 := by kernel_rfl
theorem FG : ak Tryz.prog 224 2 = some 2 := by kernel_rfl
theorem qg : ak Tryz.prog 224 3 = some 3 := by kernel_rfl
theorem mP : ak Tryz.prog 224 4 = some 4 := by kernel_rfl
theorem FF : ak Tryz.prog 224 5 = some 5 := by kernel_rfl
theorem FE : ak Tryz.prog 224 6 = some 6 := by kernel_rfl
theorem FD : ak Tryz.prog 228 0 = some 0 := by kernel_rfl
theorem FC : ak Tryz.prog 228 1 = some 1 := by kernel_rfl
theorem FB : ak Tryz.prog 228 2 = some 2 := by kernel_rfl
theorem FA : ak Tryz.prog 228 3 = some 3 := by kernel_rfl
theorem Fz : ak Tryz.prog 243 0 = some 0 := by kernel_rfl
theorem vJ : ak Tryz.prog 243 1 = some 1 := by kernel_rfl
theorem Fy : ak Tryz.prog 243 2 = some 2 := by kernel_rfl
theorem Fx : ak Tryz.prog 253 0 = some 0 := by kernel_rfl
theorem Fw : ak Tryz.prog 253 1 = some 1 := by kernel_rfl
theorem Fv : ak Tryz.prog 253 2 = some 2 := by kernel_rfl
theorem Fu : ak Tryz.prog 253 3 = some 3 := by kernel_rfl
theorem Ft : ak Tryz.prog 279 0 = some 0 := by kernel_rfl
theorem Fs : ak Tryz.prog 279 1 = some 1 := by kernel_rfl
theorem Fq : ak Tryz.prog 310 0 = some 0 := by kernel_rfl
theorem Fo : ak Tryz.prog 310 1 = some 1 := by kernel_rfl
theorem Fm : ak Tryz.prog 310 2 = some 2 := by kernel_rfl
theorem fn_6 : aA Tryz.prog 6 = true := by kernel_rfl
theorem Yg : aA Tryz.prog 7 = true := by kernel_rfl
theorem Yf : aA Tryz.prog 8 = true := by kernel_rfl
theorem HO : aA Tryz.prog 9 = true := by kernel_rfl
theorem Ig : aA Tryz.prog 10 = true := by kernel_rfl
theorem CB : aA Tryz.prog 11 = true := by kernel_rfl
theorem RK : aA Tryz.prog 12 = true := by kernel_rfl
theorem RJ : aA Tryz.prog 13 = true := by kernel_rfl
theorem ZQ : aA Tryz.prog 15 = true := by kernel_rfl
theorem ZP : aA Tryz.prog 28 = true := by kernel_rfl
theorem ZO : aA Tryz.prog 29 = true := by kernel_rfl
theorem RI : aA Tryz.prog 30 = true := by kernel_rfl
theorem ZN : aA Tryz.prog 31 = true := by kernel_rfl
theorem ZM : aA Tryz.prog 32 = true := by kernel_rfl
theorem ZL : aA Tryz.prog 33 = true := by kernel_rfl
theorem yq : aA Tryz.prog 34 = true := by kernel_rfl
theorem ZK : aA Tryz.prog 35 = true := by kernel_rfl
theorem RH : aA Tryz.prog 36 = true := by kernel_rfl
theorem RG : aA Tryz.prog 37 = true := by kernel_rfl
theorem ZJ : aA Tryz.prog 38 = true := by kernel_rfl
theorem uR : aA Tryz.prog 39 = true := by kernel_rfl
theorem RF : aA Tryz.prog 40 = true := by kernel_rfl
theorem ZI : aA Tryz.prog 41 = true := by kernel_rfl
theorem ZH : aA Tryz.prog 42 = true := by kernel_rfl
theorem ZG : aA Tryz.prog 45 = true := by kernel_rfl
theorem iF : aA Tryz.prog 46 = true := by kernel_rfl
theorem ZF : aA Tryz.prog 57 = true := by kernel_rfl
theorem ZE : aA Tryz.prog 58 = true := by kernel_rfl
theorem ZD : aA Tryz.prog 59 = true := by kernel_rfl
theorem CA : aA Tryz.prog 60 = true := by kernel_rfl
theorem ZC : aA Tryz.prog 61 = true := by kernel_rfl
theorem RE : aA Tryz.prog 62 = true := by kernel_rfl
theorem ZB : aA Tryz.prog 63 = true := by kernel_rfl
theorem ZA : aA Tryz.prog 64 = true := by kernel_rfl
theorem RD : aA Tryz.prog 65 = true := by kernel_rfl
theorem Ie : aA Tryz.prog 66 = true := by kernel_rfl
theorem Zz : aA Tryz.prog 67 = true := by kernel_rfl
theorem RC : aA Tryz.prog 69 = true := by kernel_rfl
theorem RB : aA Tryz.prog 70 = true := by kernel_rfl
theorem Zy : aA Tryz.prog 76 = true := by kernel_rfl
theorem Zx : aA Tryz.prog 77 = true := by kernel_rfl
theorem RA : aA Tryz.prog 78 = true := by kernel_rfl
theorem qz : aA Tryz.prog 79 = true := by kernel_rfl
theorem uQ : aA Tryz.prog 80 = true := by kernel_rfl
theorem Zw : aA Tryz.prog 81 = true := by kernel_rfl
theorem Rz : aA Tryz.prog 82 = true := by kernel_rfl
theorem yp : aA Tryz.prog 83 = true := by kernel_rfl
theorem yo : aA Tryz.prog 84 = true := by kernel_rfl
theorem Ry : aA Tryz.prog 85 = true := by kernel_rfl
theorem uP : aA Tryz.prog 86 = true := by kernel_rfl
theorem Rx : aA Tryz.prog 87 = true := by kernel_rfl
theorem Ic : aA Tryz.prog 88 = true := by kernel_rfl
theorem Zv : aA Tryz.prog 89 = true := by kernel_rfl
theorem Rv : aA Tryz.prog 90 = true := by kernel_rfl
theorem Zu : aA Tryz.prog 91 = true := by kernel_rfl
theorem Ru : aA Tryz.prog 92 = true := by kernel_rfl
theorem Zt : aA Tryz.prog 97 = true := by kernel_rfl
theorem Rs : aA Tryz.prog 98 = true := by kernel_rfl
theorem Zs : aA Tryz.prog 99 = true := by kernel_rfl
theorem JH : aA Tryz.prog 100 = true := by kernel_rfl
theorem VR : aA Tryz.prog 101 = true := by kernel_rfl
theorem VQ : aA Tryz.prog 103 = true := by kernel_rfl
theorem VP : aA Tryz.prog 107 = true := by kernel_rfl
theorem VO : aA Tryz.prog 108 = true := by kernel_rfl
theorem VN : aA Tryz.prog 117 = true := by kernel_rfl
theorem VM : aA Tryz.prog 118 = true := by kernel_rfl
theorem Bb : aA Tryz.prog 119 = true := by kernel_rfl
theorem VL : aA Tryz.prog 120 = true := by kernel_rfl
theorem eh : aA Tryz.prog 121 = true := by kernel_rfl
theorem VK : aA Tryz.prog 122 = true := by kernel_rfl
theorem VJ : aA Tryz.prog 123 = true := by kernel_rfl
theorem JG : aA Tryz.prog 125 = true := by kernel_rfl
theorem VI : aA Tryz.prog 126 = true := by kernel_rfl
theorem JF : aA Tryz.prog 127 = true := by kernel_rfl
theorem VH : aA Tryz.prog 128 = true := by kernel_rfl
theorem mc : aA Tryz.prog 129 = true := by kernel_rfl
theorem iz : aA Tryz.prog 130 = true := by kernel_rfl
theorem VG : aA Tryz.prog 131 = true := by kernel_rfl
theorem Ba : aA Tryz.prog 132 = true := by kernel_rfl
theorem wL : aA Tryz.prog 133 = true := by kernel_rfl
theorem VF : aA Tryz.prog 134 = true := by kernel_rfl
theorem nR : aA Tryz.prog 135 = true := by kernel_rfl
theorem VE : aA Tryz.prog 136 = true := by kernel_rfl
theorem VD : aA Tryz.prog 137 = true := by kernel_rfl
theorem JE : aA Tryz.prog 138 = true := by kernel_rfl
theorem A9 : aA Tryz.prog 139 = true := by kernel_rfl
theorem wK : aA Tryz.prog 140 = true := by kernel_rfl
theorem wJ : aA Tryz.prog 141 = true := by kernel_rfl
theorem VC : aA Tryz.prog 142 = true := by kernel_rfl
theorem A8 : aA Tryz.prog 143 = true := by kernel_rfl
theorem VB : aA Tryz.prog 144 = true := by kernel_rfl
theorem A7 : aA Tryz.prog 145 = true := by kernel_rfl
theorem VA : aA Tryz.prog 146 = true := by kernel_rfl
theorem Vz : aA Tryz.prog 149 = true := by kernel_rfl
theorem A6 : aA Tryz.prog 150 = true := by kernel_rfl
theorem JD : aA Tryz.prog 151 = true := by kernel_rfl
theorem JC : aA Tryz.prog 152 = true := by kernel_rfl
theorem Vy : aA Tryz.prog 153 = true := by kernel_rfl
theorem A5 : aA Tryz.prog 154 = true := by kernel_rfl
theorem JB : aA Tryz.prog 155 = true := by kernel_rfl
theorem Vx : aA Tryz.prog 156 = true := by kernel_rfl
theorem Vw : aA Tryz.prog 157 = true := by kernel_rfl
theorem JA : aA Tryz.prog 158 = true := by kernel_rfl
theorem Jz : aA Tryz.prog 159 = true := by kernel_rfl
theorem Vv : aA Tryz.prog 160 = true := by kernel_rfl
theorem pL : aA Tryz.prog 161 = true := by kernel_rfl
theorem AZ : aA Tryz.prog 162 = true := by kernel_rfl
theorem AY : aA Tryz.prog 163 = true := by kernel_rfl
theorem Jy : aA Tryz.prog 164 = true := by kernel_rfl
theorem Vu : aA Tryz.prog 165 = true := by kernel_rfl
theorem Jx : aA Tryz.prog 166 = true := by kernel_rfl
theorem Vt : aA Tryz.prog 167 = true := by kernel_rfl
theorem wI : aA Tryz.prog 168 = true := by kernel_rfl
theorem Vs : aA Tryz.prog 170 = true := by kernel_rfl
theorem Jw : aA Tryz.prog 172 = true := by kernel_rfl
theorem Jv : aA Tryz.prog 173 = true := by kernel_rfl
theorem Ju : aA Tryz.prog 175 = true := by kernel_rfl
theorem Vr : aA Tryz.prog 176 = true := by kernel_rfl
theorem Jt : aA Tryz.prog 178 = true := by kernel_rfl
theorem Vq : aA Tryz.prog 179 = true := by kernel_rfl
theorem Vp : aA Tryz.prog 183 = true := by kernel_rfl
theorem Js : aA Tryz.prog 184 = true := by kernel_rfl
theorem Vo : aA Tryz.prog 185 = true := by kernel_rfl
theorem Jr : aA Tryz.prog 192 = true := by kernel_rfl
theorem Jq : aA Tryz.prog 193 = true := by kernel_rfl
theorem Vn : aA Tryz.prog 194 = true := by kernel_rfl
theorem AX : aA Tryz.prog 195 = true := by kernel_rfl
theorem Jp : aA Tryz.prog 196 = true := by kernel_rfl
theorem Vm : aA Tryz.prog 197 = true := by kernel_rfl
theorem Jo : aA Tryz.prog 198 = true := by kernel_rfl
theorem Vl : aA Tryz.prog 199 = true := by kernel_rfl
theorem Vk : aA Tryz.prog 200 = true := by kernel_rfl
theorem Jn : aA Tryz.prog 201 = true := by kernel_rfl
theorem Vj : aA Tryz.prog 202 = true := by kernel_rfl
theorem Vi : aA Tryz.prog 203 = true := by kernel_rfl
theorem Vh : aA Tryz.prog 204 = true := by kernel_rfl
theorem Vg : aA Tryz.prog 207 = true := by kernel_rfl
theorem Vf : aA Tryz.prog 208 = true := by kernel_rfl
theorem Ve : aA Tryz.prog 209 = true := by kernel_rfl
theorem wH : aA Tryz.prog 210 = true := by kernel_rfl
theorem Vd : aA Tryz.prog 211 = true := by kernel_rfl
theorem jg : aA Tryz.prog 212 = true := by kernel_rfl
theorem Jm : aA Tryz.prog 213 = true := by kernel_rfl
theorem Jl : aA Tryz.prog 214 = true := by kernel_rfl
theorem Vc : aA Tryz.prog 215 = true := by kernel_rfl
theorem kV : aA Tryz.prog 216 = true := by kernel_rfl
theorem Jk : aA Tryz.prog 217 = true := by kernel_rfl
theorem Jj : aA Tryz.prog 218 = true := by kernel_rfl
theorem sH : aA Tryz.prog 219 = true := by kernel_rfl
theorem AW : aA Tryz.prog 220 = true := by kernel_rfl
theorem sG : aA Tryz.prog 221 = true := by kernel_rfl
theorem AV : aA Tryz.prog 222 = true := by kernel_rfl
theorem pK : aA Tryz.prog 223 = true := by kernel_rfl
theorem Ji : aA Tryz.prog 224 = true := by kernel_rfl
theorem wG : aA Tryz.prog 225 = true := by kernel_rfl
theorem AU : aA Tryz.prog 226 = true := by kernel_rfl
theorem Jh : aA Tryz.prog 227 = true := by kernel_rfl
theorem Jg : aA Tryz.prog 228 = true := by kernel_rfl
theorem Jf : aA Tryz.prog 231 = true := by kernel_rfl
theorem Vb : aA Tryz.prog 236 = true := by kernel_rfl
theorem Va : aA Tryz.prog 237 = true := by kernel_rfl
theorem U9 : aA Tryz.prog 238 = true := by kernel_rfl
theorem U8 : aA Tryz.prog 239 = true := by kernel_rfl
theorem Je : aA Tryz.prog 240 = true := by kernel_rfl
theorem Jd : aA Tryz.prog 241 = true := by kernel_rfl
theorem Jc : aA Tryz.prog 252 = true := by kernel_rfl
theorem Jb : aA Tryz.prog 253 = true := by kernel_rfl
theorem U7 : aA Tryz.prog 254 = true := by kernel_rfl
theorem U6 : aA Tryz.prog 255 = true := by kernel_rfl
theorem Ja : aA Tryz.prog 257 = true := by kernel_rfl
end Go.Proofs.YtpgbeapapmdkcaaGreatDoor.T
