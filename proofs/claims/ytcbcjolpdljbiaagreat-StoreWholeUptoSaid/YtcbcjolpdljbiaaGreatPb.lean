/- Part Pb of the proof. -/
import Derived.Test.YtcbcjolpdljbiaaGreatPa
import Derived.KernelRfl
import Derived.Test.YtcbcjolpdljbiaaGreatProg
set_option maxRecDepth 100000
namespace Go.Proofs.YtcbcjolpdljbiaaGreat.T
open Go Go.dG
theorem mix:Tryz.prog.follows .mixedOrders=true:=by kernel_rfl
theorem u_3:Tryz.prog.underlying 3=some (.int .i64):=by kernel_rfl
theorem Wf:(Tryz.prog.underlying 3).isSome=true:=by kernel_rfl
theorem bC:db Tryz.prog 3=true:=by kernel_rfl
theorem abe:bX Tryz.prog 3=some [(.int .i64 0)]:=by kernel_rfl
theorem gj:db Tryz.prog 4=true:=by kernel_rfl
theorem zc_4:bX Tryz.prog 4=some [(.bool false)]:=by kernel_rfl
theorem sQ:Tryz.prog.underlying 5=some (.int .u8):=by kernel_rfl
theorem abg:(Tryz.prog.underlying 5).isSome=true:=by kernel_rfl
theorem Da:db Tryz.prog 5=true:=by kernel_rfl
theorem wv:Tryz.prog.underlying 9=some .string:=by kernel_rfl
theorem PY:cG Tryz.prog 23=some 4:=by kernel_rfl
theorem Zz:bX Tryz.prog 23=some [(.int .i64 0),(.int .i64 0),(.int .i64 0),(.int .i64 0)]:=by kernel_rfl
theorem Dp:dK Tryz.prog 24=some (44,12):=by kernel_rfl
theorem pM:cG Tryz.prog 29=some 7:=by kernel_rfl
theorem zL:jc Tryz.prog 29=some [(0,1),(1,1),(2,1),(3,1),(4,1),(5,1),(6,1)]:=by kernel_rfl
theorem kj:bX Tryz.prog 29=some [(.int .i64 0),(.int .i64 0),(.int .i64 0),(.int .i64 0),(.int .i64 0),(.int .i64 0),(.int .i64 0)]:=by kernel_rfl
theorem Pz:db Tryz.prog 30=true:=by kernel_rfl
theorem ja:dK Tryz.prog 30=some (3,1):=by kernel_rfl
theorem fU:ux Tryz.prog 30=some (3,1,8,[(.int .i64 0)]):=by kernel_rfl
theorem pK:mY Tryz.prog 30=true:=by kernel_rfl
theorem OO:Tryz.prog.underlying 35=some (.int .u64):=by kernel_rfl
theorem IG:(Tryz.prog.underlying 35).isSome=true:=by kernel_rfl
theorem rG:db Tryz.prog 35=true:=by kernel_rfl
theorem zM:dK Tryz.prog 38=some (9,1):=by kernel_rfl
theorem IY:ux Tryz.prog 38=some (9,1,16,[(.string {data:= #[]})]):=by kernel_rfl
theorem ahZ:mY Tryz.prog 38=true:=by kernel_rfl
theorem mG:Tryz.prog.underlying 39=some (.slice 5):=by kernel_rfl
theorem Dr:db Tryz.prog 39=true:=by kernel_rfl
theorem kk:dK Tryz.prog 39=some (5,1):=by kernel_rfl
theorem kA:ux Tryz.prog 39=some (5,1,1,[(.int .u8 0)]):=by kernel_rfl
theorem s9:mY Tryz.prog 39=true:=by kernel_rfl
theorem PX:cG Tryz.prog 42=some 11:=by kernel_rfl
theorem Zy:bX Tryz.prog 42=some [(.int .i64 0),(.slice none 0 0),(.int .u64 0),(.int .i64 0),(.int .u64 0),(.int .u64 0),(.slice none 0 0),(.bool false),(.bool false),(.slice none 0 0),(.string {data:= #[]})]:=by kernel_rfl
theorem aaF:ux Tryz.prog 49=some (56,9,80,[(.string {data:= #[]}),(.slice none 0 0),(.int .u64 0),(.int .i64 0),(.int .u64 0),(.int .i64 0),(.bool false),(.bool false),(.bool false)]):=by kernel_rfl
theorem ahY:mY Tryz.prog 49=true:=by kernel_rfl
theorem eo:cG Tryz.prog 52=some 5:=by kernel_rfl
theorem oX:bX Tryz.prog 52=some [(.int .i64 0),(.slice none 0 0),(.int .u64 0),(.string {data:= #[]}),(.slice none 0 0)]:=by kernel_rfl
theorem tj:cG Tryz.prog 56=some 9:=by kernel_rfl
theorem IF:bX Tryz.prog 56=some [(.string {data:= #[]}),(.slice none 0 0),(.int .u64 0),(.int .i64 0),(.int .u64 0),(.int .i64 0),(.bool false),(.bool false),(.bool false)]:=by kernel_rfl
theorem aaH:cG Tryz.prog 62=some 7:=by kernel_rfl
theorem aaG:cG Tryz.prog 79=some 3:=by kernel_rfl
theorem OZ:bX Tryz.prog 79=some [(.slice none 0 0),(.slice none 0 0),(.int .i64 0)]:=by kernel_rfl
theorem Py:db Tryz.prog 85=true:=by kernel_rfl
theorem s8:db Tryz.prog 86=true:=by kernel_rfl
theorem IH:db Tryz.prog 88=true:=by kernel_rfl
theorem Px:db Tryz.prog 89=true:=by kernel_rfl
theorem Dq:db Tryz.prog 90=true:=by kernel_rfl
theorem zO:db Tryz.prog 91=true:=by kernel_rfl
theorem ZG:db Tryz.prog 92=true:=by kernel_rfl
theorem Ho:cG Tryz.prog 102=some 5:=by kernel_rfl
theorem Gl:bX Tryz.prog 102=some [(.int .i64 0),(.slice none 0 0),(.int .u64 0),(.string {data:= #[]}),(.slice none 0 0)]:=by kernel_rfl
theorem Gn:(Tryz.prog.underlying 104).isSome=true:=by kernel_rfl
theorem bO:db Tryz.prog 104=true:=by kernel_rfl
theorem Gk:bX Tryz.prog 104=some [(.int .u64 0)]:=by kernel_rfl
theorem Gs:db Tryz.prog 107=true:=by kernel_rfl
theorem abV:bX Tryz.prog 119=some [(.int .i64 0),(.int .i64 0),(.int .i64 0),(.int .i64 0)]:=by kernel_rfl
theorem afc:AY Tryz.prog 119=some (4,3,1):=by kernel_rfl
theorem Qf:dK Tryz.prog 134=some (104,1):=by kernel_rfl
theorem RP:ux Tryz.prog 134=some (104,1,8,[(.int .u64 0)]):=by kernel_rfl
theorem ac5:mY Tryz.prog 134=true:=by kernel_rfl
theorem O9:Tryz.prog.underlying 149=some (.int .u32):=by kernel_rfl
theorem Gm:(Tryz.prog.underlying 149).isSome=true:=by kernel_rfl
theorem pU:db Tryz.prog 149=true:=by kernel_rfl
theorem Bo:db Tryz.prog 152=true:=by kernel_rfl
theorem BS:ux Tryz.prog 152=some (149,1,4,[(.int .u32 0)]):=by kernel_rfl
theorem dR:cG Tryz.prog 159=some 8:=by kernel_rfl
theorem fx:jc Tryz.prog 159=some [(0,1),(1,1),(2,1),(3,1),(4,1),(5,1),(6,1),(7,1)]:=by kernel_rfl
theorem cb:bX Tryz.prog 159=some [(.slice none 0 0),(.slice none 0 0),(.int .u64 0),(.int .i64 0),(.int .i64 0),(.int .u64 0),(.int .i64 0),(.int .i64 0)]:=by kernel_rfl
theorem RN:ux Tryz.prog 176=some (227,7,80,[(.bool false),(.bool false),(.int .i64 0),(.slice none 0 0),(.slice none 0 0),(.int .i64 0),(.map none)]):=by kernel_rfl
theorem RM:ux Tryz.prog 177=some (196,4,48,[(.slice none 0 0),(.int .i64 0),(.int .i64 0),(.int .i64 0)]):=by kernel_rfl
theorem Qd:jc Tryz.prog 179=some [(0,7),(7,1),(8,1),(9,1),(10,1),(11,1)]:=by kernel_rfl
theorem P6:bX Tryz.prog 179=some [(.int .i64 0),(.int .i64 0),(.int .i64 0),(.int .i64 0),(.int .i64 0),(.int .i64 0),(.int .i64 0),(.pointer none),(.slice none 0 0),(.slice none 0 0),(.slice none 0 0),(.int .i64 0)]:=by kernel_rfl
theorem afd:ux Tryz.prog 180=some (333,9,72,[(.int .u64 0),(.int .u64 0),(.int .i64 0),(.int .u64 0),(.int .u64 0),(.int .i64 0),(.int .u64 0),(.int .u64 0),(.int .i64 0)]):=by kernel_rfl
theorem iB:dK Tryz.prog 197=some (202,3):=by kernel_rfl
theorem BR:ux Tryz.prog 197=some (202,3,24,[(.int .u64 0),(.int .i64 0),(.int .u64 0)]):=by kernel_rfl
theorem Qr:mY Tryz.prog 197=true:=by kernel_rfl
theorem uO:cG Tryz.prog 202=some 3:=by kernel_rfl
theorem xu:bX Tryz.prog 202=some [(.int .u64 0),(.int .i64 0),(.int .u64 0)]:=by kernel_rfl
theorem su:cG Tryz.prog 218=some 4:=by kernel_rfl
theorem P5:bX Tryz.prog 218=some [(.int .i64 0),(.int .i64 0),(.int .i64 0),(.bool false)]:=by kernel_rfl
theorem Bn:db Tryz.prog 224=true:=by kernel_rfl
theorem Hl:ux Tryz.prog 224=some (4,1,1,[(.bool false)]):=by kernel_rfl
theorem afg:cG Tryz.prog 227=some 7:=by kernel_rfl
theorem Hn:cG Tryz.prog 231=some 4:=by kernel_rfl
theorem gR:bX Tryz.prog 231=some [(.pointer none),(.int .i64 0),(.int .i64 0),(.int .i64 0)]:=by kernel_rfl
theorem abK:bX Tryz.prog 261=some [(.int .u8 0),(.int .u8 0),(.int .u8 0),(.int .u8 0),(.int .u8 0),(.int .u8 0),(.int .u8 0),(.int .u8 0),(.int .u8 0),(.int .u8 0),(.int .u8 0),(.int .u8 0),(.int .u8 0),(.int .u8 0),(.int .u8 0),(.int .u8 0),(.int .u8 0),(.int .u8 0),(.int .u8 0),(.int .u8 0)]:=by kernel_rfl
theorem RL:AY Tryz.prog 261=some (20,5,1):=by kernel_rfl
theorem P4:bX Tryz.prog 275=some [(.int .i64 0), .nilFunc]:=by kernel_rfl
theorem RT:cG Tryz.prog 276=some 6:=by kernel_rfl
theorem P3:bX Tryz.prog 276=some [(.int .i64 0), .nilFunc,(.int .i64 0), .nilFunc,(.int .i64 0), .nilFunc]:=by kernel_rfl
theorem afb:AY Tryz.prog 276=some (3,275,2):=by kernel_rfl
theorem ZC:Tryz.prog.underlying 295=some (.pointer 312):=by kernel_rfl
theorem afa:AY Tryz.prog 333=some (3,312,3):=by kernel_rfl
theorem abJ:bX Tryz.prog 335=some [(.int .i64 0),(.int .i64 0),(.int .i64 0)]:=by kernel_rfl
theorem ae9:AY Tryz.prog 335=some (3,3,1):=by kernel_rfl
theorem EF:ak Tryz.prog 23 3=some 3:=by kernel_rfl
theorem US:ak Tryz.prog 26 1=some 1:=by kernel_rfl
theorem UR:ak Tryz.prog 26 2=some 2:=by kernel_rfl
theorem UP:ak Tryz.prog 26 4=some 4:=by kernel_rfl
theorem UO:ak Tryz.prog 26 5=some 5:=by kernel_rfl
theorem yb:ak Tryz.prog 29 1=some 1:=by kernel_rfl
theorem EE:ak Tryz.prog 42 2=some 2:=by kernel_rfl
theorem ED:ak Tryz.prog 42 3=some 3:=by kernel_rfl
theorem EC:ak Tryz.prog 42 6=some 6:=by kernel_rfl
theorem UA:ak Tryz.prog 44 0=some 0:=by kernel_rfl
theorem ya:ak Tryz.prog 44 1=some 11:=by kernel_rfl
theorem jC:ak Tryz.prog 62 6=some 6:=by kernel_rfl
theorem EB:ak Tryz.prog 94 1=some 1:=by kernel_rfl
theorem EA:ak Tryz.prog 94 4=some 4:=by kernel_rfl
theorem x9:ak Tryz.prog 94 5=some 5:=by kernel_rfl
theorem Ez:ak Tryz.prog 94 6=some 6:=by kernel_rfl
theorem nK:ak Tryz.prog 96 0=some 0:=by kernel_rfl
theorem Ey:ak Tryz.prog 96 2=some 15:=by kernel_rfl
theorem iL:ak Tryz.prog 96 5=some 21:=by kernel_rfl
theorem AH:ak Tryz.prog 184 1=some 1:=by kernel_rfl
theorem AG:ak Tryz.prog 202 1=some 1:=by kernel_rfl
theorem vh:ak Tryz.prog 227 3=some 3:=by kernel_rfl
theorem qS:ak Tryz.prog 227 4=some 4:=by kernel_rfl
theorem CF{n:Nat}(h:Nat.ble n 6=false:=by rfl)(g:Nat.blt n 278=true:=by rfl):aC Tryz.prog n=true:=by
 have:=List.all_eq_true.1 (show((List.range 278).all λm=>Nat.ble m 6||aC Tryz.prog m)=true by kernel_rfl) n (List.mem_range.2 (Nat.blt_eq.mp g));rw[h,Bool.false_or]at this;exact this
end Go.Proofs.YtcbcjolpdljbiaaGreat.T
