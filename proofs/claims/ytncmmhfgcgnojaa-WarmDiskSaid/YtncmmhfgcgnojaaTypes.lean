/- The closed facts on types that the rules of the engine ask for. Written by program. -/
import Derived.Test.YtncmmhfgcgnojaaEng7
import Derived.Test.YtncmmhfgcgnojaaProg
import Derived.KernelRfl
namespace Go.Proofs.Ytncmmhfgcgnojaa.T
open Go Go.Eng

theorem mix : Go.Proofs.Try.prog.follows .mixedOrders = true := by kernel_rfl
theorem u_3 : Go.Proofs.Try.prog.underlying 3 = some (Go.TypeDesc.int Go.IntKind.i64) := by kernel_rfl
theorem us_3 : (Go.Proofs.Try.prog.underlying 3).isSome = true := by kernel_rfl
theorem sc_3 : scal Go.Proofs.Try.prog 3 = true := by kernel_rfl
theorem zc_3 : zeroCs Go.Proofs.Try.prog 3 = some [(Go.Value.int Go.IntKind.i64 0)] := by kernel_rfl
theorem u_4 : Go.Proofs.Try.prog.underlying 4 = some Go.TypeDesc.bool := by kernel_rfl
theorem us_4 : (Go.Proofs.Try.prog.underlying 4).isSome = true := by kernel_rfl
theorem sc_4 : scal Go.Proofs.Try.prog 4 = true := by kernel_rfl
theorem zc_4 : zeroCs Go.Proofs.Try.prog 4 = some [(Go.Value.bool false)] := by kernel_rfl
theorem u_5 : Go.Proofs.Try.prog.underlying 5 = some (Go.TypeDesc.int Go.IntKind.u8) := by kernel_rfl
theorem us_5 : (Go.Proofs.Try.prog.underlying 5).isSome = true := by kernel_rfl
theorem sc_5 : scal Go.Proofs.Try.prog 5 = true := by kernel_rfl
theorem zc_5 : zeroCs Go.Proofs.Try.prog 5 = some [(Go.Value.int Go.IntKind.u8 0)] := by kernel_rfl
theorem u_9 : Go.Proofs.Try.prog.underlying 9 = some Go.TypeDesc.string := by kernel_rfl
theorem us_9 : (Go.Proofs.Try.prog.underlying 9).isSome = true := by kernel_rfl
theorem sc_9 : scal Go.Proofs.Try.prog 9 = true := by kernel_rfl
theorem zc_9 : zeroCs Go.Proofs.Try.prog 9 = some [(Go.Value.string { data := #[] })] := by kernel_rfl
theorem ni_9 : notInt Go.Proofs.Try.prog 9 = true := by kernel_rfl
theorem u_20 : Go.Proofs.Try.prog.underlying 20 = some (Go.TypeDesc.interface #[]) := by kernel_rfl
theorem us_20 : (Go.Proofs.Try.prog.underlying 20).isSome = true := by kernel_rfl
theorem sc_20 : scal Go.Proofs.Try.prog 20 = true := by kernel_rfl
theorem zc_20 : zeroCs Go.Proofs.Try.prog 20 = some [Go.Value.nilIface] := by kernel_rfl
theorem u_22 : Go.Proofs.Try.prog.underlying 22 = some (Go.TypeDesc.array 2 3) := by kernel_rfl
theorem us_22 : (Go.Proofs.Try.prog.underlying 22).isSome = true := by kernel_rfl
theorem ag_22 : aggSz Go.Proofs.Try.prog 22 = some 2 := by kernel_rfl
theorem zc_22 : zeroCs Go.Proofs.Try.prog 22 = some [(Go.Value.int Go.IntKind.i64 0), (Go.Value.int Go.IntKind.i64 0)] := by kernel_rfl
theorem ar_22 : arT Go.Proofs.Try.prog 22 = some (2, 3, 1) := by kernel_rfl
theorem u_23 : Go.Proofs.Try.prog.underlying 23 = some (Go.TypeDesc.slice 44) := by kernel_rfl
theorem us_23 : (Go.Proofs.Try.prog.underlying 23).isSome = true := by kernel_rfl
theorem sc_23 : scal Go.Proofs.Try.prog 23 = true := by kernel_rfl
theorem zc_23 : zeroCs Go.Proofs.Try.prog 23 = some [(Go.Value.slice none 0 0)] := by kernel_rfl
theorem sl_23 : slElem Go.Proofs.Try.prog 23 = some (44, 8) := by kernel_rfl
theorem ap_23 : apT Go.Proofs.Try.prog 23 = some (44, 8, 128, [(Go.Value.int Go.IntKind.i64 0), (Go.Value.int Go.IntKind.i64 0), (Go.Value.string { data := #[] }), (Go.Value.string { data := #[] }), (Go.Value.slice none 0 0), (Go.Value.slice none 0 0), (Go.Value.slice none 0 0), (Go.Value.int Go.IntKind.i64 0)]) := by kernel_rfl
theorem ni_23 : notInt Go.Proofs.Try.prog 23 = true := by kernel_rfl
theorem u_25 : Go.Proofs.Try.prog.underlying 25 = some (Go.TypeDesc.pointer 65) := by kernel_rfl
theorem us_25 : (Go.Proofs.Try.prog.underlying 25).isSome = true := by kernel_rfl
theorem sc_25 : scal Go.Proofs.Try.prog 25 = true := by kernel_rfl
theorem zc_25 : zeroCs Go.Proofs.Try.prog 25 = some [(Go.Value.pointer none)] := by kernel_rfl
theorem u_26 : Go.Proofs.Try.prog.underlying 26 = some (Go.TypeDesc.array 2 25) := by kernel_rfl
theorem us_26 : (Go.Proofs.Try.prog.underlying 26).isSome = true := by kernel_rfl
theorem ag_26 : aggSz Go.Proofs.Try.prog 26 = some 2 := by kernel_rfl
theorem zc_26 : zeroCs Go.Proofs.Try.prog 26 = some [(Go.Value.pointer none), (Go.Value.pointer none)] := by kernel_rfl
theorem ar_26 : arT Go.Proofs.Try.prog 26 = some (2, 25, 1) := by kernel_rfl
theorem u_27 : Go.Proofs.Try.prog.underlying 27 = some (Go.TypeDesc.pointer 70) := by kernel_rfl
theorem us_27 : (Go.Proofs.Try.prog.underlying 27).isSome = true := by kernel_rfl
theorem sc_27 : scal Go.Proofs.Try.prog 27 = true := by kernel_rfl
theorem zc_27 : zeroCs Go.Proofs.Try.prog 27 = some [(Go.Value.pointer none)] := by kernel_rfl
theorem u_28 : Go.Proofs.Try.prog.underlying 28 = some (Go.TypeDesc.array 2 27) := by kernel_rfl
theorem us_28 : (Go.Proofs.Try.prog.underlying 28).isSome = true := by kernel_rfl
theorem ag_28 : aggSz Go.Proofs.Try.prog 28 = some 2 := by kernel_rfl
theorem zc_28 : zeroCs Go.Proofs.Try.prog 28 = some [(Go.Value.pointer none), (Go.Value.pointer none)] := by kernel_rfl
theorem ar_28 : arT Go.Proofs.Try.prog 28 = some (2, 27, 1) := by kernel_rfl
theorem u_30 : Go.Proofs.Try.prog.underlying 30 = some (Go.TypeDesc.interface #[("Error", 71)]) := by kernel_rfl
theorem us_30 : (Go.Proofs.Try.prog.underlying 30).isSome = true := by kernel_rfl
theorem sc_30 : scal Go.Proofs.Try.prog 30 = true := by kernel_rfl
theorem zc_30 : zeroCs Go.Proofs.Try.prog 30 = some [Go.Value.nilIface] := by kernel_rfl
theorem u_34 : Go.Proofs.Try.prog.underlying 34 = some (Go.TypeDesc.struct #[{ name := "Call", type := 9, offset := 0, embedded := false, tag := "", pkgPath := "", byteOffset := 0 }, { name := "Name", type := 9, offset := 1, embedded := false, tag := "", pkgPath := "", byteOffset := 16 }, { name := "Why", type := 3, offset := 2, embedded := false, tag := "", pkgPath := "", byteOffset := 32 }]) := by kernel_rfl
theorem us_34 : (Go.Proofs.Try.prog.underlying 34).isSome = true := by kernel_rfl
theorem ag_34 : aggSz Go.Proofs.Try.prog 34 = some 3 := by kernel_rfl
theorem st_34 : stPl Go.Proofs.Try.prog 34 = some [(0, 1), (1, 1), (2, 1)] := by kernel_rfl
theorem zc_34 : zeroCs Go.Proofs.Try.prog 34 = some [(Go.Value.string { data := #[] }), (Go.Value.string { data := #[] }), (Go.Value.int Go.IntKind.i64 0)] := by kernel_rfl
theorem u_38 : Go.Proofs.Try.prog.underlying 38 = some (Go.TypeDesc.slice 5) := by kernel_rfl
theorem us_38 : (Go.Proofs.Try.prog.underlying 38).isSome = true := by kernel_rfl
theorem sc_38 : scal Go.Proofs.Try.prog 38 = true := by kernel_rfl
theorem zc_38 : zeroCs Go.Proofs.Try.prog 38 = some [(Go.Value.slice none 0 0)] := by kernel_rfl
theorem sl_38 : slElem Go.Proofs.Try.prog 38 = some (5, 1) := by kernel_rfl
theorem ap_38 : apT Go.Proofs.Try.prog 38 = some (5, 1, 1, [(Go.Value.int Go.IntKind.u8 0)]) := by kernel_rfl
theorem ni_38 : notInt Go.Proofs.Try.prog 38 = true := by kernel_rfl
theorem u_39 : Go.Proofs.Try.prog.underlying 39 = some (Go.TypeDesc.slice 119) := by kernel_rfl
theorem us_39 : (Go.Proofs.Try.prog.underlying 39).isSome = true := by kernel_rfl
theorem sc_39 : scal Go.Proofs.Try.prog 39 = true := by kernel_rfl
theorem zc_39 : zeroCs Go.Proofs.Try.prog 39 = some [(Go.Value.slice none 0 0)] := by kernel_rfl
theorem sl_39 : slElem Go.Proofs.Try.prog 39 = some (119, 3) := by kernel_rfl
theorem ap_39 : apT Go.Proofs.Try.prog 39 = some (119, 3, 24, [(Go.Value.int Go.IntKind.i64 0), (Go.Value.int Go.IntKind.i64 0), (Go.Value.int Go.IntKind.i64 0)]) := by kernel_rfl
theorem ni_39 : notInt Go.Proofs.Try.prog 39 = true := by kernel_rfl
theorem u_40 : Go.Proofs.Try.prog.underlying 40 = some (Go.TypeDesc.slice 3) := by kernel_rfl
theorem us_40 : (Go.Proofs.Try.prog.underlying 40).isSome = true := by kernel_rfl
theorem sc_40 : scal Go.Proofs.Try.prog 40 = true := by kernel_rfl
theorem zc_40 : zeroCs Go.Proofs.Try.prog 40 = some [(Go.Value.slice none 0 0)] := by kernel_rfl
theorem sl_40 : slElem Go.Proofs.Try.prog 40 = some (3, 1) := by kernel_rfl
theorem ap_40 : apT Go.Proofs.Try.prog 40 = some (3, 1, 8, [(Go.Value.int Go.IntKind.i64 0)]) := by kernel_rfl
theorem ni_40 : notInt Go.Proofs.Try.prog 40 = true := by kernel_rfl
theorem u_42 : Go.Proofs.Try.prog.underlying 42 = some (Go.TypeDesc.struct #[{ name := "Bytes", type := 40, offset := 0, embedded := false, tag := "", pkgPath := "", byteOffset := 0 }, { name := "Names", type := 3, offset := 1, embedded := false, tag := "", pkgPath := "", byteOffset := 24 }]) := by kernel_rfl
theorem us_42 : (Go.Proofs.Try.prog.underlying 42).isSome = true := by kernel_rfl
theorem ag_42 : aggSz Go.Proofs.Try.prog 42 = some 2 := by kernel_rfl
theorem st_42 : stPl Go.Proofs.Try.prog 42 = some [(0, 1), (1, 1)] := by kernel_rfl
theorem zc_42 : zeroCs Go.Proofs.Try.prog 42 = some [(Go.Value.slice none 0 0), (Go.Value.int Go.IntKind.i64 0)] := by kernel_rfl
theorem u_44 : Go.Proofs.Try.prog.underlying 44 = some (Go.TypeDesc.struct #[{ name := "On", type := 3, offset := 0, embedded := false, tag := "", pkgPath := "", byteOffset := 0 }, { name := "Do", type := 3, offset := 1, embedded := false, tag := "", pkgPath := "", byteOffset := 8 }, { name := "Name", type := 9, offset := 2, embedded := false, tag := "", pkgPath := "", byteOffset := 16 }, { name := "To", type := 9, offset := 3, embedded := false, tag := "", pkgPath := "", byteOffset := 32 }, { name := "Bytes", type := 38, offset := 4, embedded := false, tag := "", pkgPath := "", byteOffset := 48 }, { name := "Plan", type := 39, offset := 5, embedded := false, tag := "", pkgPath := "", byteOffset := 72 }, { name := "Cut", type := 42, offset := 6, embedded := false, tag := "", pkgPath := "", byteOffset := 96 }]) := by kernel_rfl
theorem us_44 : (Go.Proofs.Try.prog.underlying 44).isSome = true := by kernel_rfl
theorem ag_44 : aggSz Go.Proofs.Try.prog 44 = some 8 := by kernel_rfl
theorem st_44 : stPl Go.Proofs.Try.prog 44 = some [(0, 1), (1, 1), (2, 1), (3, 1), (4, 1), (5, 1), (6, 2)] := by kernel_rfl
theorem zc_44 : zeroCs Go.Proofs.Try.prog 44 = some [(Go.Value.int Go.IntKind.i64 0), (Go.Value.int Go.IntKind.i64 0), (Go.Value.string { data := #[] }), (Go.Value.string { data := #[] }), (Go.Value.slice none 0 0), (Go.Value.slice none 0 0), (Go.Value.slice none 0 0), (Go.Value.int Go.IntKind.i64 0)] := by kernel_rfl
theorem u_57 : Go.Proofs.Try.prog.underlying 57 = some (Go.TypeDesc.slice 9) := by kernel_rfl
theorem us_57 : (Go.Proofs.Try.prog.underlying 57).isSome = true := by kernel_rfl
theorem sc_57 : scal Go.Proofs.Try.prog 57 = true := by kernel_rfl
theorem zc_57 : zeroCs Go.Proofs.Try.prog 57 = some [(Go.Value.slice none 0 0)] := by kernel_rfl
theorem sl_57 : slElem Go.Proofs.Try.prog 57 = some (9, 1) := by kernel_rfl
theorem ap_57 : apT Go.Proofs.Try.prog 57 = some (9, 1, 16, [(Go.Value.string { data := #[] })]) := by kernel_rfl
theorem ni_57 : notInt Go.Proofs.Try.prog 57 = true := by kernel_rfl
theorem u_60 : Go.Proofs.Try.prog.underlying 60 = some (Go.TypeDesc.int Go.IntKind.i64) := by kernel_rfl
theorem us_60 : (Go.Proofs.Try.prog.underlying 60).isSome = true := by kernel_rfl
theorem sc_60 : scal Go.Proofs.Try.prog 60 = true := by kernel_rfl
theorem zc_60 : zeroCs Go.Proofs.Try.prog 60 = some [(Go.Value.int Go.IntKind.i64 0)] := by kernel_rfl
theorem u_61 : Go.Proofs.Try.prog.underlying 61 = some (Go.TypeDesc.map 9 3) := by kernel_rfl
theorem us_61 : (Go.Proofs.Try.prog.underlying 61).isSome = true := by kernel_rfl
theorem sc_61 : scal Go.Proofs.Try.prog 61 = true := by kernel_rfl
theorem zc_61 : zeroCs Go.Proofs.Try.prog 61 = some [(Go.Value.map none)] := by kernel_rfl
theorem u_62 : Go.Proofs.Try.prog.underlying 62 = some (Go.TypeDesc.slice 87) := by kernel_rfl
theorem us_62 : (Go.Proofs.Try.prog.underlying 62).isSome = true := by kernel_rfl
theorem sc_62 : scal Go.Proofs.Try.prog 62 = true := by kernel_rfl
theorem zc_62 : zeroCs Go.Proofs.Try.prog 62 = some [(Go.Value.slice none 0 0)] := by kernel_rfl
theorem sl_62 : slElem Go.Proofs.Try.prog 62 = some (87, 1) := by kernel_rfl
theorem ap_62 : apT Go.Proofs.Try.prog 62 = some (87, 1, 8, [(Go.Value.pointer none)]) := by kernel_rfl
theorem ni_62 : notInt Go.Proofs.Try.prog 62 = true := by kernel_rfl
theorem u_63 : Go.Proofs.Try.prog.underlying 63 = some (Go.TypeDesc.slice 84) := by kernel_rfl
theorem us_63 : (Go.Proofs.Try.prog.underlying 63).isSome = true := by kernel_rfl
theorem sc_63 : scal Go.Proofs.Try.prog 63 = true := by kernel_rfl
theorem zc_63 : zeroCs Go.Proofs.Try.prog 63 = some [(Go.Value.slice none 0 0)] := by kernel_rfl
theorem sl_63 : slElem Go.Proofs.Try.prog 63 = some (84, 3) := by kernel_rfl
theorem ap_63 : apT Go.Proofs.Try.prog 63 = some (84, 3, 40, [(Go.Value.string { data := #[] }), (Go.Value.string { data := #[] }), (Go.Value.int Go.IntKind.i64 0)]) := by kernel_rfl
theorem ni_63 : notInt Go.Proofs.Try.prog 63 = true := by kernel_rfl
theorem u_65 : Go.Proofs.Try.prog.underlying 65 = some (Go.TypeDesc.struct #[{ name := "space", type := 3, offset := 0, embedded := false, tag := "", pkgPath := "granary/warm", byteOffset := 0 }, { name := "acts", type := 3, offset := 1, embedded := false, tag := "", pkgPath := "granary/warm", byteOffset := 8 }, { name := "files", type := 62, offset := 2, embedded := false, tag := "", pkgPath := "granary/warm", byteOffset := 16 }, { name := "names", type := 61, offset := 3, embedded := false, tag := "", pkgPath := "granary/warm", byteOffset := 40 }, { name := "safe", type := 61, offset := 4, embedded := false, tag := "", pkgPath := "granary/warm", byteOffset := 48 }, { name := "changes", type := 63, offset := 5, embedded := false, tag := "", pkgPath := "granary/warm", byteOffset := 56 }, { name := "plan", type := 39, offset := 6, embedded := false, tag := "", pkgPath := "granary/warm", byteOffset := 80 }, { name := "dark", type := 4, offset := 7, embedded := false, tag := "", pkgPath := "granary/warm", byteOffset := 104 }]) := by kernel_rfl
theorem us_65 : (Go.Proofs.Try.prog.underlying 65).isSome = true := by kernel_rfl
theorem ag_65 : aggSz Go.Proofs.Try.prog 65 = some 8 := by kernel_rfl
theorem st_65 : stPl Go.Proofs.Try.prog 65 = some [(0, 1), (1, 1), (2, 1), (3, 1), (4, 1), (5, 1), (6, 1), (7, 1)] := by kernel_rfl
theorem zc_65 : zeroCs Go.Proofs.Try.prog 65 = some [(Go.Value.int Go.IntKind.i64 0), (Go.Value.int Go.IntKind.i64 0), (Go.Value.slice none 0 0), (Go.Value.map none), (Go.Value.map none), (Go.Value.slice none 0 0), (Go.Value.slice none 0 0), (Go.Value.bool false)] := by kernel_rfl
theorem u_66 : Go.Proofs.Try.prog.underlying 66 = some (Go.TypeDesc.slice 93) := by kernel_rfl
theorem us_66 : (Go.Proofs.Try.prog.underlying 66).isSome = true := by kernel_rfl
theorem sc_66 : scal Go.Proofs.Try.prog 66 = true := by kernel_rfl
theorem zc_66 : zeroCs Go.Proofs.Try.prog 66 = some [(Go.Value.slice none 0 0)] := by kernel_rfl
theorem sl_66 : slElem Go.Proofs.Try.prog 66 = some (93, 2) := by kernel_rfl
theorem ap_66 : apT Go.Proofs.Try.prog 66 = some (93, 2, 32, [(Go.Value.slice none 0 0), (Go.Value.int Go.IntKind.i64 0)]) := by kernel_rfl
theorem ni_66 : notInt Go.Proofs.Try.prog 66 = true := by kernel_rfl
theorem u_67 : Go.Proofs.Try.prog.underlying 67 = some (Go.TypeDesc.slice 113) := by kernel_rfl
theorem us_67 : (Go.Proofs.Try.prog.underlying 67).isSome = true := by kernel_rfl
theorem sc_67 : scal Go.Proofs.Try.prog 67 = true := by kernel_rfl
theorem zc_67 : zeroCs Go.Proofs.Try.prog 67 = some [(Go.Value.slice none 0 0)] := by kernel_rfl
theorem sl_67 : slElem Go.Proofs.Try.prog 67 = some (113, 2) := by kernel_rfl
theorem ap_67 : apT Go.Proofs.Try.prog 67 = some (113, 2, 24, [(Go.Value.string { data := #[] }), (Go.Value.int Go.IntKind.i64 0)]) := by kernel_rfl
theorem ni_67 : notInt Go.Proofs.Try.prog 67 = true := by kernel_rfl
theorem u_68 : Go.Proofs.Try.prog.underlying 68 = some (Go.TypeDesc.slice 116) := by kernel_rfl
theorem us_68 : (Go.Proofs.Try.prog.underlying 68).isSome = true := by kernel_rfl
theorem sc_68 : scal Go.Proofs.Try.prog 68 = true := by kernel_rfl
theorem zc_68 : zeroCs Go.Proofs.Try.prog 68 = some [(Go.Value.slice none 0 0)] := by kernel_rfl
theorem sl_68 : slElem Go.Proofs.Try.prog 68 = some (116, 3) := by kernel_rfl
theorem ap_68 : apT Go.Proofs.Try.prog 68 = some (116, 3, 40, [(Go.Value.string { data := #[] }), (Go.Value.string { data := #[] }), (Go.Value.int Go.IntKind.i64 0)]) := by kernel_rfl
theorem ni_68 : notInt Go.Proofs.Try.prog 68 = true := by kernel_rfl
theorem u_70 : Go.Proofs.Try.prog.underlying 70 = some (Go.TypeDesc.struct #[{ name := "space", type := 3, offset := 0, embedded := false, tag := "", pkgPath := "granary/granaryref18", byteOffset := 0 }, { name := "files", type := 66, offset := 1, embedded := false, tag := "", pkgPath := "granary/granaryref18", byteOffset := 8 }, { name := "safe", type := 67, offset := 2, embedded := false, tag := "", pkgPath := "granary/granaryref18", byteOffset := 32 }, { name := "changes", type := 68, offset := 3, embedded := false, tag := "", pkgPath := "granary/granaryref18", byteOffset := 56 }, { name := "acts", type := 3, offset := 4, embedded := false, tag := "", pkgPath := "granary/granaryref18", byteOffset := 80 }, { name := "plan", type := 39, offset := 5, embedded := false, tag := "", pkgPath := "granary/granaryref18", byteOffset := 88 }, { name := "dark", type := 4, offset := 6, embedded := false, tag := "", pkgPath := "granary/granaryref18", byteOffset := 112 }]) := by kernel_rfl
theorem us_70 : (Go.Proofs.Try.prog.underlying 70).isSome = true := by kernel_rfl
theorem ag_70 : aggSz Go.Proofs.Try.prog 70 = some 7 := by kernel_rfl
theorem st_70 : stPl Go.Proofs.Try.prog 70 = some [(0, 1), (1, 1), (2, 1), (3, 1), (4, 1), (5, 1), (6, 1)] := by kernel_rfl
theorem zc_70 : zeroCs Go.Proofs.Try.prog 70 = some [(Go.Value.int Go.IntKind.i64 0), (Go.Value.slice none 0 0), (Go.Value.slice none 0 0), (Go.Value.slice none 0 0), (Go.Value.int Go.IntKind.i64 0), (Go.Value.slice none 0 0), (Go.Value.bool false)] := by kernel_rfl
theorem u_84 : Go.Proofs.Try.prog.underlying 84 = some (Go.TypeDesc.struct #[{ name := "from", type := 9, offset := 0, embedded := false, tag := "", pkgPath := "granary/warm", byteOffset := 0 }, { name := "to", type := 9, offset := 1, embedded := false, tag := "", pkgPath := "granary/warm", byteOffset := 16 }, { name := "file", type := 3, offset := 2, embedded := false, tag := "", pkgPath := "granary/warm", byteOffset := 32 }]) := by kernel_rfl
theorem us_84 : (Go.Proofs.Try.prog.underlying 84).isSome = true := by kernel_rfl
theorem ag_84 : aggSz Go.Proofs.Try.prog 84 = some 3 := by kernel_rfl
theorem st_84 : stPl Go.Proofs.Try.prog 84 = some [(0, 1), (1, 1), (2, 1)] := by kernel_rfl
theorem zc_84 : zeroCs Go.Proofs.Try.prog 84 = some [(Go.Value.string { data := #[] }), (Go.Value.string { data := #[] }), (Go.Value.int Go.IntKind.i64 0)] := by kernel_rfl
theorem u_87 : Go.Proofs.Try.prog.underlying 87 = some (Go.TypeDesc.pointer 89) := by kernel_rfl
theorem us_87 : (Go.Proofs.Try.prog.underlying 87).isSome = true := by kernel_rfl
theorem sc_87 : scal Go.Proofs.Try.prog 87 = true := by kernel_rfl
theorem zc_87 : zeroCs Go.Proofs.Try.prog 87 = some [(Go.Value.pointer none)] := by kernel_rfl
theorem u_89 : Go.Proofs.Try.prog.underlying 89 = some (Go.TypeDesc.struct #[{ name := "bytes", type := 38, offset := 0, embedded := false, tag := "", pkgPath := "granary/warm", byteOffset := 0 }, { name := "safe", type := 3, offset := 1, embedded := false, tag := "", pkgPath := "granary/warm", byteOffset := 24 }]) := by kernel_rfl
theorem us_89 : (Go.Proofs.Try.prog.underlying 89).isSome = true := by kernel_rfl
theorem ag_89 : aggSz Go.Proofs.Try.prog 89 = some 2 := by kernel_rfl
theorem st_89 : stPl Go.Proofs.Try.prog 89 = some [(0, 1), (1, 1)] := by kernel_rfl
theorem zc_89 : zeroCs Go.Proofs.Try.prog 89 = some [(Go.Value.slice none 0 0), (Go.Value.int Go.IntKind.i64 0)] := by kernel_rfl
theorem u_93 : Go.Proofs.Try.prog.underlying 93 = some (Go.TypeDesc.struct #[{ name := "Bytes", type := 38, offset := 0, embedded := false, tag := "", pkgPath := "", byteOffset := 0 }, { name := "Safe", type := 3, offset := 1, embedded := false, tag := "", pkgPath := "", byteOffset := 24 }]) := by kernel_rfl
theorem us_93 : (Go.Proofs.Try.prog.underlying 93).isSome = true := by kernel_rfl
theorem ag_93 : aggSz Go.Proofs.Try.prog 93 = some 2 := by kernel_rfl
theorem st_93 : stPl Go.Proofs.Try.prog 93 = some [(0, 1), (1, 1)] := by kernel_rfl
theorem zc_93 : zeroCs Go.Proofs.Try.prog 93 = some [(Go.Value.slice none 0 0), (Go.Value.int Go.IntKind.i64 0)] := by kernel_rfl
theorem u_98 : Go.Proofs.Try.prog.underlying 98 = some (Go.TypeDesc.func #[3] #[60] false) := by kernel_rfl
theorem us_98 : (Go.Proofs.Try.prog.underlying 98).isSome = true := by kernel_rfl
theorem sc_98 : scal Go.Proofs.Try.prog 98 = true := by kernel_rfl
theorem zc_98 : zeroCs Go.Proofs.Try.prog 98 = some [Go.Value.nilFunc] := by kernel_rfl
theorem u_99 : Go.Proofs.Try.prog.underlying 99 = some (Go.TypeDesc.pointer 102) := by kernel_rfl
theorem us_99 : (Go.Proofs.Try.prog.underlying 99).isSome = true := by kernel_rfl
theorem sc_99 : scal Go.Proofs.Try.prog 99 = true := by kernel_rfl
theorem zc_99 : zeroCs Go.Proofs.Try.prog 99 = some [(Go.Value.pointer none)] := by kernel_rfl
theorem u_102 : Go.Proofs.Try.prog.underlying 102 = some (Go.TypeDesc.struct #[{ name := "Call", type := 9, offset := 0, embedded := false, tag := "", pkgPath := "", byteOffset := 0 }, { name := "Name", type := 9, offset := 1, embedded := false, tag := "", pkgPath := "", byteOffset := 16 }, { name := "Why", type := 30, offset := 2, embedded := false, tag := "", pkgPath := "", byteOffset := 32 }]) := by kernel_rfl
theorem us_102 : (Go.Proofs.Try.prog.underlying 102).isSome = true := by kernel_rfl
theorem ag_102 : aggSz Go.Proofs.Try.prog 102 = some 3 := by kernel_rfl
theorem st_102 : stPl Go.Proofs.Try.prog 102 = some [(0, 1), (1, 1), (2, 1)] := by kernel_rfl
theorem zc_102 : zeroCs Go.Proofs.Try.prog 102 = some [(Go.Value.string { data := #[] }), (Go.Value.string { data := #[] }), Go.Value.nilIface] := by kernel_rfl
theorem u_106 : Go.Proofs.Try.prog.underlying 106 = some (Go.TypeDesc.func #[109] #[] false) := by kernel_rfl
theorem us_106 : (Go.Proofs.Try.prog.underlying 106).isSome = true := by kernel_rfl
theorem sc_106 : scal Go.Proofs.Try.prog 106 = true := by kernel_rfl
theorem zc_106 : zeroCs Go.Proofs.Try.prog 106 = some [Go.Value.nilFunc] := by kernel_rfl
theorem u_113 : Go.Proofs.Try.prog.underlying 113 = some (Go.TypeDesc.struct #[{ name := "Name", type := 9, offset := 0, embedded := false, tag := "", pkgPath := "", byteOffset := 0 }, { name := "File", type := 3, offset := 1, embedded := false, tag := "", pkgPath := "", byteOffset := 16 }]) := by kernel_rfl
theorem us_113 : (Go.Proofs.Try.prog.underlying 113).isSome = true := by kernel_rfl
theorem ag_113 : aggSz Go.Proofs.Try.prog 113 = some 2 := by kernel_rfl
theorem st_113 : stPl Go.Proofs.Try.prog 113 = some [(0, 1), (1, 1)] := by kernel_rfl
theorem zc_113 : zeroCs Go.Proofs.Try.prog 113 = some [(Go.Value.string { data := #[] }), (Go.Value.int Go.IntKind.i64 0)] := by kernel_rfl
theorem u_116 : Go.Proofs.Try.prog.underlying 116 = some (Go.TypeDesc.struct #[{ name := "from", type := 9, offset := 0, embedded := false, tag := "", pkgPath := "granary/granaryref18", byteOffset := 0 }, { name := "to", type := 9, offset := 1, embedded := false, tag := "", pkgPath := "granary/granaryref18", byteOffset := 16 }, { name := "file", type := 3, offset := 2, embedded := false, tag := "", pkgPath := "granary/granaryref18", byteOffset := 32 }]) := by kernel_rfl
theorem us_116 : (Go.Proofs.Try.prog.underlying 116).isSome = true := by kernel_rfl
theorem ag_116 : aggSz Go.Proofs.Try.prog 116 = some 3 := by kernel_rfl
theorem st_116 : stPl Go.Proofs.Try.prog 116 = some [(0, 1), (1, 1), (2, 1)] := by kernel_rfl
theorem zc_116 : zeroCs Go.Proofs.Try.prog 116 = some [(Go.Value.string { data := #[] }), (Go.Value.string { data := #[] }), (Go.Value.int Go.IntKind.i64 0)] := by kernel_rfl
theorem u_119 : Go.Proofs.Try.prog.underlying 119 = some (Go.TypeDesc.struct #[{ name := "Step", type := 3, offset := 0, embedded := false, tag := "", pkgPath := "", byteOffset := 0 }, { name := "Kind", type := 3, offset := 1, embedded := false, tag := "", pkgPath := "", byteOffset := 8 }, { name := "Part", type := 3, offset := 2, embedded := false, tag := "", pkgPath := "", byteOffset := 16 }]) := by kernel_rfl
theorem us_119 : (Go.Proofs.Try.prog.underlying 119).isSome = true := by kernel_rfl
theorem ag_119 : aggSz Go.Proofs.Try.prog 119 = some 3 := by kernel_rfl
theorem st_119 : stPl Go.Proofs.Try.prog 119 = some [(0, 1), (1, 1), (2, 1)] := by kernel_rfl
theorem zc_119 : zeroCs Go.Proofs.Try.prog 119 = some [(Go.Value.int Go.IntKind.i64 0), (Go.Value.int Go.IntKind.i64 0), (Go.Value.int Go.IntKind.i64 0)] := by kernel_rfl
theorem u_129 : Go.Proofs.Try.prog.underlying 129 = some (Go.TypeDesc.int Go.IntKind.u64) := by kernel_rfl
theorem us_129 : (Go.Proofs.Try.prog.underlying 129).isSome = true := by kernel_rfl
theorem sc_129 : scal Go.Proofs.Try.prog 129 = true := by kernel_rfl
theorem zc_129 : zeroCs Go.Proofs.Try.prog 129 = some [(Go.Value.int Go.IntKind.u64 0)] := by kernel_rfl
theorem u_131 : Go.Proofs.Try.prog.underlying 131 = some (Go.TypeDesc.int Go.IntKind.i64) := by kernel_rfl
theorem us_131 : (Go.Proofs.Try.prog.underlying 131).isSome = true := by kernel_rfl
theorem sc_131 : scal Go.Proofs.Try.prog 131 = true := by kernel_rfl
theorem zc_131 : zeroCs Go.Proofs.Try.prog 131 = some [(Go.Value.int Go.IntKind.i64 0)] := by kernel_rfl
theorem u_139 : Go.Proofs.Try.prog.underlying 139 = some (Go.TypeDesc.int Go.IntKind.u32) := by kernel_rfl
theorem us_139 : (Go.Proofs.Try.prog.underlying 139).isSome = true := by kernel_rfl
theorem sc_139 : scal Go.Proofs.Try.prog 139 = true := by kernel_rfl
theorem zc_139 : zeroCs Go.Proofs.Try.prog 139 = some [(Go.Value.int Go.IntKind.u32 0)] := by kernel_rfl
theorem u_141 : Go.Proofs.Try.prog.underlying 141 = some (Go.TypeDesc.int Go.IntKind.u64) := by kernel_rfl
theorem us_141 : (Go.Proofs.Try.prog.underlying 141).isSome = true := by kernel_rfl
theorem sc_141 : scal Go.Proofs.Try.prog 141 = true := by kernel_rfl
theorem zc_141 : zeroCs Go.Proofs.Try.prog 141 = some [(Go.Value.int Go.IntKind.u64 0)] := by kernel_rfl
theorem u_142 : Go.Proofs.Try.prog.underlying 142 = some (Go.TypeDesc.int Go.IntKind.u64) := by kernel_rfl
theorem us_142 : (Go.Proofs.Try.prog.underlying 142).isSome = true := by kernel_rfl
theorem sc_142 : scal Go.Proofs.Try.prog 142 = true := by kernel_rfl
theorem zc_142 : zeroCs Go.Proofs.Try.prog 142 = some [(Go.Value.int Go.IntKind.u64 0)] := by kernel_rfl
theorem u_146 : Go.Proofs.Try.prog.underlying 146 = some (Go.TypeDesc.pointer 3) := by kernel_rfl
theorem us_146 : (Go.Proofs.Try.prog.underlying 146).isSome = true := by kernel_rfl
theorem sc_146 : scal Go.Proofs.Try.prog 146 = true := by kernel_rfl
theorem zc_146 : zeroCs Go.Proofs.Try.prog 146 = some [(Go.Value.pointer none)] := by kernel_rfl
theorem fld_34_0 : fldOff Go.Proofs.Try.prog 34 0 = some 0 := by kernel_rfl
theorem fld_34_1 : fldOff Go.Proofs.Try.prog 34 1 = some 1 := by kernel_rfl
theorem fld_34_2 : fldOff Go.Proofs.Try.prog 34 2 = some 2 := by kernel_rfl
theorem fld_42_0 : fldOff Go.Proofs.Try.prog 42 0 = some 0 := by kernel_rfl
theorem fld_42_1 : fldOff Go.Proofs.Try.prog 42 1 = some 1 := by kernel_rfl
theorem fld_44_0 : fldOff Go.Proofs.Try.prog 44 0 = some 0 := by kernel_rfl
theorem fld_44_1 : fldOff Go.Proofs.Try.prog 44 1 = some 1 := by kernel_rfl
theorem fld_44_2 : fldOff Go.Proofs.Try.prog 44 2 = some 2 := by kernel_rfl
theorem fld_44_3 : fldOff Go.Proofs.Try.prog 44 3 = some 3 := by kernel_rfl
theorem fld_44_4 : fldOff Go.Proofs.Try.prog 44 4 = some 4 := by kernel_rfl
theorem fld_44_5 : fldOff Go.Proofs.Try.prog 44 5 = some 5 := by kernel_rfl
theorem fld_44_6 : fldOff Go.Proofs.Try.prog 44 6 = some 6 := by kernel_rfl
theorem fld_65_0 : fldOff Go.Proofs.Try.prog 65 0 = some 0 := by kernel_rfl
theorem fld_65_1 : fldOff Go.Proofs.Try.prog 65 1 = some 1 := by kernel_rfl
theorem fld_65_2 : fldOff Go.Proofs.Try.prog 65 2 = some 2 := by kernel_rfl
theorem fld_65_3 : fldOff Go.Proofs.Try.prog 65 3 = some 3 := by kernel_rfl
theorem fld_65_4 : fldOff Go.Proofs.Try.prog 65 4 = some 4 := by kernel_rfl
theorem fld_65_5 : fldOff Go.Proofs.Try.prog 65 5 = some 5 := by kernel_rfl
theorem fld_65_6 : fldOff Go.Proofs.Try.prog 65 6 = some 6 := by kernel_rfl
theorem fld_65_7 : fldOff Go.Proofs.Try.prog 65 7 = some 7 := by kernel_rfl
theorem fld_70_0 : fldOff Go.Proofs.Try.prog 70 0 = some 0 := by kernel_rfl
theorem fld_70_1 : fldOff Go.Proofs.Try.prog 70 1 = some 1 := by kernel_rfl
theorem fld_70_2 : fldOff Go.Proofs.Try.prog 70 2 = some 2 := by kernel_rfl
theorem fld_70_3 : fldOff Go.Proofs.Try.prog 70 3 = some 3 := by kernel_rfl
theorem fld_70_4 : fldOff Go.Proofs.Try.prog 70 4 = some 4 := by kernel_rfl
theorem fld_70_5 : fldOff Go.Proofs.Try.prog 70 5 = some 5 := by kernel_rfl
theorem fld_70_6 : fldOff Go.Proofs.Try.prog 70 6 = some 6 := by kernel_rfl
theorem fld_84_0 : fldOff Go.Proofs.Try.prog 84 0 = some 0 := by kernel_rfl
theorem fld_84_1 : fldOff Go.Proofs.Try.prog 84 1 = some 1 := by kernel_rfl
theorem fld_84_2 : fldOff Go.Proofs.Try.prog 84 2 = some 2 := by kernel_rfl
theorem fld_89_0 : fldOff Go.Proofs.Try.prog 89 0 = some 0 := by kernel_rfl
theorem fld_89_1 : fldOff Go.Proofs.Try.prog 89 1 = some 1 := by kernel_rfl
theorem fld_93_0 : fldOff Go.Proofs.Try.prog 93 0 = some 0 := by kernel_rfl
theorem fld_93_1 : fldOff Go.Proofs.Try.prog 93 1 = some 1 := by kernel_rfl
theorem fld_102_0 : fldOff Go.Proofs.Try.prog 102 0 = some 0 := by kernel_rfl
theorem fld_102_1 : fldOff Go.Proofs.Try.prog 102 1 = some 1 := by kernel_rfl
theorem fld_102_2 : fldOff Go.Proofs.Try.prog 102 2 = some 2 := by kernel_rfl
theorem fld_113_0 : fldOff Go.Proofs.Try.prog 113 0 = some 0 := by kernel_rfl
theorem fld_113_1 : fldOff Go.Proofs.Try.prog 113 1 = some 1 := by kernel_rfl
theorem fld_116_0 : fldOff Go.Proofs.Try.prog 116 0 = some 0 := by kernel_rfl
theorem fld_116_1 : fldOff Go.Proofs.Try.prog 116 1 = some 1 := by kernel_rfl
theorem fld_116_2 : fldOff Go.Proofs.Try.prog 116 2 = some 2 := by kernel_rfl
theorem fld_119_0 : fldOff Go.Proofs.Try.prog 119 0 = some 0 := by kernel_rfl
theorem fld_119_1 : fldOff Go.Proofs.Try.prog 119 1 = some 1 := by kernel_rfl
theorem fld_119_2 : fldOff Go.Proofs.Try.prog 119 2 = some 2 := by kernel_rfl
theorem fn_2 : isFn Go.Proofs.Try.prog 2 = true := by kernel_rfl
theorem fn_3 : isFn Go.Proofs.Try.prog 3 = true := by kernel_rfl
theorem fn_4 : isFn Go.Proofs.Try.prog 4 = true := by kernel_rfl
theorem fn_5 : isFn Go.Proofs.Try.prog 5 = true := by kernel_rfl
theorem fn_6 : isFn Go.Proofs.Try.prog 6 = true := by kernel_rfl
theorem fn_7 : isFn Go.Proofs.Try.prog 7 = true := by kernel_rfl
theorem fn_8 : isFn Go.Proofs.Try.prog 8 = true := by kernel_rfl
theorem fn_9 : isFn Go.Proofs.Try.prog 9 = true := by kernel_rfl
theorem fn_10 : isFn Go.Proofs.Try.prog 10 = true := by kernel_rfl
theorem fn_11 : isFn Go.Proofs.Try.prog 11 = true := by kernel_rfl
theorem fn_12 : isFn Go.Proofs.Try.prog 12 = true := by kernel_rfl
theorem fn_13 : isFn Go.Proofs.Try.prog 13 = true := by kernel_rfl
theorem fn_14 : isFn Go.Proofs.Try.prog 14 = true := by kernel_rfl
theorem fn_15 : isFn Go.Proofs.Try.prog 15 = true := by kernel_rfl
theorem fn_16 : isFn Go.Proofs.Try.prog 16 = true := by kernel_rfl
theorem fn_17 : isFn Go.Proofs.Try.prog 17 = true := by kernel_rfl
theorem fn_18 : isFn Go.Proofs.Try.prog 18 = true := by kernel_rfl
theorem fn_19 : isFn Go.Proofs.Try.prog 19 = true := by kernel_rfl
theorem fn_20 : isFn Go.Proofs.Try.prog 20 = true := by kernel_rfl
theorem fn_21 : isFn Go.Proofs.Try.prog 21 = true := by kernel_rfl
theorem fn_22 : isFn Go.Proofs.Try.prog 22 = true := by kernel_rfl
theorem fn_23 : isFn Go.Proofs.Try.prog 23 = true := by kernel_rfl
theorem fn_24 : isFn Go.Proofs.Try.prog 24 = true := by kernel_rfl
theorem fn_25 : isFn Go.Proofs.Try.prog 25 = true := by kernel_rfl
theorem fn_26 : isFn Go.Proofs.Try.prog 26 = true := by kernel_rfl
theorem fn_27 : isFn Go.Proofs.Try.prog 27 = true := by kernel_rfl
theorem fn_28 : isFn Go.Proofs.Try.prog 28 = true := by kernel_rfl
theorem fn_29 : isFn Go.Proofs.Try.prog 29 = true := by kernel_rfl
theorem fn_30 : isFn Go.Proofs.Try.prog 30 = true := by kernel_rfl
theorem fn_31 : isFn Go.Proofs.Try.prog 31 = true := by kernel_rfl
theorem fn_32 : isFn Go.Proofs.Try.prog 32 = true := by kernel_rfl
theorem fn_33 : isFn Go.Proofs.Try.prog 33 = true := by kernel_rfl
theorem fn_34 : isFn Go.Proofs.Try.prog 34 = true := by kernel_rfl
theorem fn_35 : isFn Go.Proofs.Try.prog 35 = true := by kernel_rfl
theorem fn_36 : isFn Go.Proofs.Try.prog 36 = true := by kernel_rfl
theorem fn_37 : isFn Go.Proofs.Try.prog 37 = true := by kernel_rfl
theorem fn_38 : isFn Go.Proofs.Try.prog 38 = true := by kernel_rfl
theorem fn_39 : isFn Go.Proofs.Try.prog 39 = true := by kernel_rfl
theorem fn_40 : isFn Go.Proofs.Try.prog 40 = true := by kernel_rfl
theorem fn_41 : isFn Go.Proofs.Try.prog 41 = true := by kernel_rfl
theorem fn_42 : isFn Go.Proofs.Try.prog 42 = true := by kernel_rfl
theorem fn_43 : isFn Go.Proofs.Try.prog 43 = true := by kernel_rfl
theorem fn_44 : isFn Go.Proofs.Try.prog 44 = true := by kernel_rfl
theorem fn_45 : isFn Go.Proofs.Try.prog 45 = true := by kernel_rfl
theorem fn_46 : isFn Go.Proofs.Try.prog 46 = true := by kernel_rfl
theorem fn_47 : isFn Go.Proofs.Try.prog 47 = true := by kernel_rfl
theorem fn_48 : isFn Go.Proofs.Try.prog 48 = true := by kernel_rfl
theorem fn_49 : isFn Go.Proofs.Try.prog 49 = true := by kernel_rfl
theorem fn_50 : isFn Go.Proofs.Try.prog 50 = true := by kernel_rfl
theorem fn_51 : isFn Go.Proofs.Try.prog 51 = true := by kernel_rfl
theorem fn_52 : isFn Go.Proofs.Try.prog 52 = true := by kernel_rfl
theorem fn_53 : isFn Go.Proofs.Try.prog 53 = true := by kernel_rfl
theorem fn_54 : isFn Go.Proofs.Try.prog 54 = true := by kernel_rfl
theorem fn_55 : isFn Go.Proofs.Try.prog 55 = true := by kernel_rfl
theorem fn_56 : isFn Go.Proofs.Try.prog 56 = true := by kernel_rfl
theorem fn_57 : isFn Go.Proofs.Try.prog 57 = true := by kernel_rfl
theorem fn_58 : isFn Go.Proofs.Try.prog 58 = true := by kernel_rfl
theorem fn_59 : isFn Go.Proofs.Try.prog 59 = true := by kernel_rfl
theorem fn_60 : isFn Go.Proofs.Try.prog 60 = true := by kernel_rfl
theorem fn_61 : isFn Go.Proofs.Try.prog 61 = true := by kernel_rfl
theorem fn_63 : isFn Go.Proofs.Try.prog 63 = true := by kernel_rfl
theorem fn_64 : isFn Go.Proofs.Try.prog 64 = true := by kernel_rfl
theorem fn_65 : isFn Go.Proofs.Try.prog 65 = true := by kernel_rfl
theorem fn_66 : isFn Go.Proofs.Try.prog 66 = true := by kernel_rfl
theorem fn_67 : isFn Go.Proofs.Try.prog 67 = true := by kernel_rfl
theorem fn_68 : isFn Go.Proofs.Try.prog 68 = true := by kernel_rfl
theorem fn_69 : isFn Go.Proofs.Try.prog 69 = true := by kernel_rfl
theorem fn_70 : isFn Go.Proofs.Try.prog 70 = true := by kernel_rfl
theorem fn_71 : isFn Go.Proofs.Try.prog 71 = true := by kernel_rfl
theorem fn_72 : isFn Go.Proofs.Try.prog 72 = true := by kernel_rfl
theorem fn_73 : isFn Go.Proofs.Try.prog 73 = true := by kernel_rfl
theorem fn_74 : isFn Go.Proofs.Try.prog 74 = true := by kernel_rfl
theorem fn_75 : isFn Go.Proofs.Try.prog 75 = true := by kernel_rfl
theorem fn_76 : isFn Go.Proofs.Try.prog 76 = true := by kernel_rfl
theorem fn_77 : isFn Go.Proofs.Try.prog 77 = true := by kernel_rfl
theorem fn_78 : isFn Go.Proofs.Try.prog 78 = true := by kernel_rfl
theorem fn_79 : isFn Go.Proofs.Try.prog 79 = true := by kernel_rfl
theorem fn_80 : isFn Go.Proofs.Try.prog 80 = true := by kernel_rfl
theorem fn_81 : isFn Go.Proofs.Try.prog 81 = true := by kernel_rfl
theorem fn_82 : isFn Go.Proofs.Try.prog 82 = true := by kernel_rfl
theorem fn_83 : isFn Go.Proofs.Try.prog 83 = true := by kernel_rfl
theorem fn_84 : isFn Go.Proofs.Try.prog 84 = true := by kernel_rfl
theorem fn_85 : isFn Go.Proofs.Try.prog 85 = true := by kernel_rfl
theorem fn_86 : isFn Go.Proofs.Try.prog 86 = true := by kernel_rfl
theorem fn_87 : isFn Go.Proofs.Try.prog 87 = true := by kernel_rfl
theorem fn_88 : isFn Go.Proofs.Try.prog 88 = true := by kernel_rfl
theorem fn_89 : isFn Go.Proofs.Try.prog 89 = true := by kernel_rfl
theorem fn_90 : isFn Go.Proofs.Try.prog 90 = true := by kernel_rfl
theorem fn_91 : isFn Go.Proofs.Try.prog 91 = true := by kernel_rfl
theorem fn_92 : isFn Go.Proofs.Try.prog 92 = true := by kernel_rfl
theorem fn_108 : isFn Go.Proofs.Try.prog 108 = true := by kernel_rfl

end Go.Proofs.Ytncmmhfgcgnojaa.T
