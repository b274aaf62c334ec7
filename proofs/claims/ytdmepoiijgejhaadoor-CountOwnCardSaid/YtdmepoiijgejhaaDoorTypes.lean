/- The closed facts on types that the rules of the engine ask for. Written by program. -/
import Derived.Test.YtdmepoiijgejhaaDoorEng7
import Derived.Test.YtdmepoiijgejhaaDoorProg
import Derived.KernelRfl
namespace Go.Proofs.YtdmepoiijgejhaaDoor.T
open Go Go.Eng

theorem mix : Go.Proofs.Tryd.prog.follows .mixedOrders = true := by kernel_rfl
theorem u_2 : Go.Proofs.Tryd.prog.underlying 2 = some (Go.TypeDesc.int Go.IntKind.i64) := by kernel_rfl
theorem us_2 : (Go.Proofs.Tryd.prog.underlying 2).isSome = true := by kernel_rfl
theorem sc_2 : scal Go.Proofs.Tryd.prog 2 = true := by kernel_rfl
theorem zc_2 : zeroCs Go.Proofs.Tryd.prog 2 = some [(Go.Value.int Go.IntKind.i64 0)] := by kernel_rfl
theorem u_3 : Go.Proofs.Tryd.prog.underlying 3 = some (Go.TypeDesc.int Go.IntKind.i64) := by kernel_rfl
theorem us_3 : (Go.Proofs.Tryd.prog.underlying 3).isSome = true := by kernel_rfl
theorem sc_3 : scal Go.Proofs.Tryd.prog 3 = true := by kernel_rfl
theorem zc_3 : zeroCs Go.Proofs.Tryd.prog 3 = some [(Go.Value.int Go.IntKind.i64 0)] := by kernel_rfl
theorem u_4 : Go.Proofs.Tryd.prog.underlying 4 = some Go.TypeDesc.bool := by kernel_rfl
theorem us_4 : (Go.Proofs.Tryd.prog.underlying 4).isSome = true := by kernel_rfl
theorem sc_4 : scal Go.Proofs.Tryd.prog 4 = true := by kernel_rfl
theorem zc_4 : zeroCs Go.Proofs.Tryd.prog 4 = some [(Go.Value.bool false)] := by kernel_rfl
theorem u_5 : Go.Proofs.Tryd.prog.underlying 5 = some (Go.TypeDesc.int Go.IntKind.u8) := by kernel_rfl
theorem us_5 : (Go.Proofs.Tryd.prog.underlying 5).isSome = true := by kernel_rfl
theorem sc_5 : scal Go.Proofs.Tryd.prog 5 = true := by kernel_rfl
theorem zc_5 : zeroCs Go.Proofs.Tryd.prog 5 = some [(Go.Value.int Go.IntKind.u8 0)] := by kernel_rfl
theorem u_9 : Go.Proofs.Tryd.prog.underlying 9 = some Go.TypeDesc.string := by kernel_rfl
theorem us_9 : (Go.Proofs.Tryd.prog.underlying 9).isSome = true := by kernel_rfl
theorem sc_9 : scal Go.Proofs.Tryd.prog 9 = true := by kernel_rfl
theorem zc_9 : zeroCs Go.Proofs.Tryd.prog 9 = some [(Go.Value.string { data := #[] })] := by kernel_rfl
theorem ni_9 : notInt Go.Proofs.Tryd.prog 9 = true := by kernel_rfl
theorem u_21 : Go.Proofs.Tryd.prog.underlying 21 = some (Go.TypeDesc.int Go.IntKind.i32) := by kernel_rfl
theorem us_21 : (Go.Proofs.Tryd.prog.underlying 21).isSome = true := by kernel_rfl
theorem sc_21 : scal Go.Proofs.Tryd.prog 21 = true := by kernel_rfl
theorem zc_21 : zeroCs Go.Proofs.Tryd.prog 21 = some [(Go.Value.int Go.IntKind.i32 0)] := by kernel_rfl
theorem u_22 : Go.Proofs.Tryd.prog.underlying 22 = some (Go.TypeDesc.slice 43) := by kernel_rfl
theorem us_22 : (Go.Proofs.Tryd.prog.underlying 22).isSome = true := by kernel_rfl
theorem sc_22 : scal Go.Proofs.Tryd.prog 22 = true := by kernel_rfl
theorem zc_22 : zeroCs Go.Proofs.Tryd.prog 22 = some [(Go.Value.slice none 0 0)] := by kernel_rfl
theorem sl_22 : slElem Go.Proofs.Tryd.prog 22 = some (43, 24) := by kernel_rfl
theorem ap_22 : apT Go.Proofs.Tryd.prog 22 = some (43, 24, 296, [(Go.Value.int Go.IntKind.i64 0), (Go.Value.slice none 0 0), (Go.Value.int Go.IntKind.u64 0), (Go.Value.int Go.IntKind.i64 0), (Go.Value.int Go.IntKind.u64 0), (Go.Value.int Go.IntKind.u64 0), (Go.Value.slice none 0 0), (Go.Value.bool false), (Go.Value.bool false), (Go.Value.slice none 0 0), (Go.Value.string { data := #[] }), (Go.Value.int Go.IntKind.i64 0), (Go.Value.slice none 0 0), (Go.Value.int Go.IntKind.u64 0), (Go.Value.string { data := #[] }), (Go.Value.slice none 0 0), (Go.Value.slice none 0 0), (Go.Value.int Go.IntKind.i64 0), (Go.Value.int Go.IntKind.i64 0), (Go.Value.int Go.IntKind.i64 0), (Go.Value.int Go.IntKind.i64 0), (Go.Value.int Go.IntKind.i64 0), (Go.Value.int Go.IntKind.i64 0), (Go.Value.int Go.IntKind.i64 0)]) := by kernel_rfl
theorem ni_22 : notInt Go.Proofs.Tryd.prog 22 = true := by kernel_rfl
theorem u_24 : Go.Proofs.Tryd.prog.underlying 24 = some (Go.TypeDesc.pointer 89) := by kernel_rfl
theorem us_24 : (Go.Proofs.Tryd.prog.underlying 24).isSome = true := by kernel_rfl
theorem sc_24 : scal Go.Proofs.Tryd.prog 24 = true := by kernel_rfl
theorem zc_24 : zeroCs Go.Proofs.Tryd.prog 24 = some [(Go.Value.pointer none)] := by kernel_rfl
theorem u_26 : Go.Proofs.Tryd.prog.underlying 26 = some (Go.TypeDesc.pointer 91) := by kernel_rfl
theorem us_26 : (Go.Proofs.Tryd.prog.underlying 26).isSome = true := by kernel_rfl
theorem sc_26 : scal Go.Proofs.Tryd.prog 26 = true := by kernel_rfl
theorem zc_26 : zeroCs Go.Proofs.Tryd.prog 26 = some [(Go.Value.pointer none)] := by kernel_rfl
theorem u_29 : Go.Proofs.Tryd.prog.underlying 29 = some (Go.TypeDesc.slice 9) := by kernel_rfl
theorem us_29 : (Go.Proofs.Tryd.prog.underlying 29).isSome = true := by kernel_rfl
theorem sc_29 : scal Go.Proofs.Tryd.prog 29 = true := by kernel_rfl
theorem zc_29 : zeroCs Go.Proofs.Tryd.prog 29 = some [(Go.Value.slice none 0 0)] := by kernel_rfl
theorem sl_29 : slElem Go.Proofs.Tryd.prog 29 = some (9, 1) := by kernel_rfl
theorem ap_29 : apT Go.Proofs.Tryd.prog 29 = some (9, 1, 16, [(Go.Value.string { data := #[] })]) := by kernel_rfl
theorem ni_29 : notInt Go.Proofs.Tryd.prog 29 = true := by kernel_rfl
theorem u_30 : Go.Proofs.Tryd.prog.underlying 30 = some (Go.TypeDesc.int Go.IntKind.u64) := by kernel_rfl
theorem us_30 : (Go.Proofs.Tryd.prog.underlying 30).isSome = true := by kernel_rfl
theorem sc_30 : scal Go.Proofs.Tryd.prog 30 = true := by kernel_rfl
theorem zc_30 : zeroCs Go.Proofs.Tryd.prog 30 = some [(Go.Value.int Go.IntKind.u64 0)] := by kernel_rfl
theorem u_31 : Go.Proofs.Tryd.prog.underlying 31 = some (Go.TypeDesc.slice 5) := by kernel_rfl
theorem us_31 : (Go.Proofs.Tryd.prog.underlying 31).isSome = true := by kernel_rfl
theorem sc_31 : scal Go.Proofs.Tryd.prog 31 = true := by kernel_rfl
theorem zc_31 : zeroCs Go.Proofs.Tryd.prog 31 = some [(Go.Value.slice none 0 0)] := by kernel_rfl
theorem sl_31 : slElem Go.Proofs.Tryd.prog 31 = some (5, 1) := by kernel_rfl
theorem ap_31 : apT Go.Proofs.Tryd.prog 31 = some (5, 1, 1, [(Go.Value.int Go.IntKind.u8 0)]) := by kernel_rfl
theorem ni_31 : notInt Go.Proofs.Tryd.prog 31 = true := by kernel_rfl
theorem u_32 : Go.Proofs.Tryd.prog.underlying 32 = some (Go.TypeDesc.slice 63) := by kernel_rfl
theorem us_32 : (Go.Proofs.Tryd.prog.underlying 32).isSome = true := by kernel_rfl
theorem sc_32 : scal Go.Proofs.Tryd.prog 32 = true := by kernel_rfl
theorem zc_32 : zeroCs Go.Proofs.Tryd.prog 32 = some [(Go.Value.slice none 0 0)] := by kernel_rfl
theorem sl_32 : slElem Go.Proofs.Tryd.prog 32 = some (63, 3) := by kernel_rfl
theorem ap_32 : apT Go.Proofs.Tryd.prog 32 = some (63, 3, 32, [(Go.Value.int Go.IntKind.u8 0), (Go.Value.string { data := #[] }), (Go.Value.bool false)]) := by kernel_rfl
theorem ni_32 : notInt Go.Proofs.Tryd.prog 32 = true := by kernel_rfl
theorem u_34 : Go.Proofs.Tryd.prog.underlying 34 = some (Go.TypeDesc.struct #[{ name := "Verb", type := 3, offset := 0, embedded := false, tag := "", pkgPath := "", byteOffset := 0 }, { name := "Keys", type := 29, offset := 1, embedded := false, tag := "", pkgPath := "", byteOffset := 8 }, { name := "Flags", type := 30, offset := 2, embedded := false, tag := "", pkgPath := "", byteOffset := 32 }, { name := "Exptime", type := 3, offset := 3, embedded := false, tag := "", pkgPath := "", byteOffset := 40 }, { name := "Token", type := 30, offset := 4, embedded := false, tag := "", pkgPath := "", byteOffset := 48 }, { name := "Delta", type := 30, offset := 5, embedded := false, tag := "", pkgPath := "", byteOffset := 56 }, { name := "Data", type := 31, offset := 6, embedded := false, tag := "", pkgPath := "", byteOffset := 64 }, { name := "Noreply", type := 4, offset := 7, embedded := false, tag := "", pkgPath := "", byteOffset := 88 }, { name := "Large", type := 4, offset := 8, embedded := false, tag := "", pkgPath := "", byteOffset := 89 }, { name := "Meta", type := 32, offset := 9, embedded := false, tag := "", pkgPath := "", byteOffset := 96 }, { name := "What", type := 9, offset := 10, embedded := false, tag := "", pkgPath := "", byteOffset := 120 }]) := by kernel_rfl
theorem us_34 : (Go.Proofs.Tryd.prog.underlying 34).isSome = true := by kernel_rfl
theorem ag_34 : aggSz Go.Proofs.Tryd.prog 34 = some 11 := by kernel_rfl
theorem st_34 : stPl Go.Proofs.Tryd.prog 34 = some [(0, 1), (1, 1), (2, 1), (3, 1), (4, 1), (5, 1), (6, 1), (7, 1), (8, 1), (9, 1), (10, 1)] := by kernel_rfl
theorem zc_34 : zeroCs Go.Proofs.Tryd.prog 34 = some [(Go.Value.int Go.IntKind.i64 0), (Go.Value.slice none 0 0), (Go.Value.int Go.IntKind.u64 0), (Go.Value.int Go.IntKind.i64 0), (Go.Value.int Go.IntKind.u64 0), (Go.Value.int Go.IntKind.u64 0), (Go.Value.slice none 0 0), (Go.Value.bool false), (Go.Value.bool false), (Go.Value.slice none 0 0), (Go.Value.string { data := #[] })] := by kernel_rfl
theorem u_35 : Go.Proofs.Tryd.prog.underlying 35 = some (Go.TypeDesc.slice 130) := by kernel_rfl
theorem us_35 : (Go.Proofs.Tryd.prog.underlying 35).isSome = true := by kernel_rfl
theorem sc_35 : scal Go.Proofs.Tryd.prog 35 = true := by kernel_rfl
theorem zc_35 : zeroCs Go.Proofs.Tryd.prog 35 = some [(Go.Value.slice none 0 0)] := by kernel_rfl
theorem sl_35 : slElem Go.Proofs.Tryd.prog 35 = some (130, 9) := by kernel_rfl
theorem ap_35 : apT Go.Proofs.Tryd.prog 35 = some (130, 9, 80, [(Go.Value.string { data := #[] }), (Go.Value.slice none 0 0), (Go.Value.int Go.IntKind.u64 0), (Go.Value.int Go.IntKind.i64 0), (Go.Value.int Go.IntKind.u64 0), (Go.Value.int Go.IntKind.i64 0), (Go.Value.bool false), (Go.Value.bool false), (Go.Value.bool false)]) := by kernel_rfl
theorem ni_35 : notInt Go.Proofs.Tryd.prog 35 = true := by kernel_rfl
theorem u_36 : Go.Proofs.Tryd.prog.underlying 36 = some (Go.TypeDesc.slice 78) := by kernel_rfl
theorem us_36 : (Go.Proofs.Tryd.prog.underlying 36).isSome = true := by kernel_rfl
theorem sc_36 : scal Go.Proofs.Tryd.prog 36 = true := by kernel_rfl
theorem zc_36 : zeroCs Go.Proofs.Tryd.prog 36 = some [(Go.Value.slice none 0 0)] := by kernel_rfl
theorem sl_36 : slElem Go.Proofs.Tryd.prog 36 = some (78, 2) := by kernel_rfl
theorem ap_36 : apT Go.Proofs.Tryd.prog 36 = some (78, 2, 24, [(Go.Value.string { data := #[] }), (Go.Value.int Go.IntKind.u64 0)]) := by kernel_rfl
theorem ni_36 : notInt Go.Proofs.Tryd.prog 36 = true := by kernel_rfl
theorem u_38 : Go.Proofs.Tryd.prog.underlying 38 = some (Go.TypeDesc.struct #[{ name := "Kind", type := 3, offset := 0, embedded := false, tag := "", pkgPath := "", byteOffset := 0 }, { name := "Entries", type := 35, offset := 1, embedded := false, tag := "", pkgPath := "", byteOffset := 8 }, { name := "Number", type := 30, offset := 2, embedded := false, tag := "", pkgPath := "", byteOffset := 32 }, { name := "Text", type := 9, offset := 3, embedded := false, tag := "", pkgPath := "", byteOffset := 40 }, { name := "Stats", type := 36, offset := 4, embedded := false, tag := "", pkgPath := "", byteOffset := 56 }]) := by kernel_rfl
theorem us_38 : (Go.Proofs.Tryd.prog.underlying 38).isSome = true := by kernel_rfl
theorem ag_38 : aggSz Go.Proofs.Tryd.prog 38 = some 5 := by kernel_rfl
theorem st_38 : stPl Go.Proofs.Tryd.prog 38 = some [(0, 1), (1, 1), (2, 1), (3, 1), (4, 1)] := by kernel_rfl
theorem zc_38 : zeroCs Go.Proofs.Tryd.prog 38 = some [(Go.Value.int Go.IntKind.i64 0), (Go.Value.slice none 0 0), (Go.Value.int Go.IntKind.u64 0), (Go.Value.string { data := #[] }), (Go.Value.slice none 0 0)] := by kernel_rfl
theorem u_39 : Go.Proofs.Tryd.prog.underlying 39 = some (Go.TypeDesc.slice 3) := by kernel_rfl
theorem us_39 : (Go.Proofs.Tryd.prog.underlying 39).isSome = true := by kernel_rfl
theorem sc_39 : scal Go.Proofs.Tryd.prog 39 = true := by kernel_rfl
theorem zc_39 : zeroCs Go.Proofs.Tryd.prog 39 = some [(Go.Value.slice none 0 0)] := by kernel_rfl
theorem sl_39 : slElem Go.Proofs.Tryd.prog 39 = some (3, 1) := by kernel_rfl
theorem ap_39 : apT Go.Proofs.Tryd.prog 39 = some (3, 1, 8, [(Go.Value.int Go.IntKind.i64 0)]) := by kernel_rfl
theorem ni_39 : notInt Go.Proofs.Tryd.prog 39 = true := by kernel_rfl
theorem u_41 : Go.Proofs.Tryd.prog.underlying 41 = some (Go.TypeDesc.struct #[{ name := "Dropped", type := 3, offset := 0, embedded := false, tag := "", pkgPath := "", byteOffset := 0 }, { name := "Reclaimed", type := 3, offset := 1, embedded := false, tag := "", pkgPath := "", byteOffset := 8 }, { name := "Buckets", type := 3, offset := 2, embedded := false, tag := "", pkgPath := "", byteOffset := 16 }, { name := "Links", type := 3, offset := 3, embedded := false, tag := "", pkgPath := "", byteOffset := 24 }, { name := "Looked", type := 3, offset := 4, embedded := false, tag := "", pkgPath := "", byteOffset := 32 }, { name := "Crawled", type := 3, offset := 5, embedded := false, tag := "", pkgPath := "", byteOffset := 40 }, { name := "Moved", type := 3, offset := 6, embedded := false, tag := "", pkgPath := "", byteOffset := 48 }]) := by kernel_rfl
theorem us_41 : (Go.Proofs.Tryd.prog.underlying 41).isSome = true := by kernel_rfl
theorem ag_41 : aggSz Go.Proofs.Tryd.prog 41 = some 7 := by kernel_rfl
theorem st_41 : stPl Go.Proofs.Tryd.prog 41 = some [(0, 1), (1, 1), (2, 1), (3, 1), (4, 1), (5, 1), (6, 1)] := by kernel_rfl
theorem zc_41 : zeroCs Go.Proofs.Tryd.prog 41 = some [(Go.Value.int Go.IntKind.i64 0), (Go.Value.int Go.IntKind.i64 0), (Go.Value.int Go.IntKind.i64 0), (Go.Value.int Go.IntKind.i64 0), (Go.Value.int Go.IntKind.i64 0), (Go.Value.int Go.IntKind.i64 0), (Go.Value.int Go.IntKind.i64 0)] := by kernel_rfl
theorem u_43 : Go.Proofs.Tryd.prog.underlying 43 = some (Go.TypeDesc.struct #[{ name := "C", type := 34, offset := 0, embedded := false, tag := "", pkgPath := "", byteOffset := 0 }, { name := "A", type := 38, offset := 11, embedded := false, tag := "", pkgPath := "", byteOffset := 136 }, { name := "Why", type := 39, offset := 16, embedded := false, tag := "", pkgPath := "", byteOffset := 216 }, { name := "M", type := 41, offset := 17, embedded := false, tag := "", pkgPath := "", byteOffset := 240 }]) := by kernel_rfl
theorem us_43 : (Go.Proofs.Tryd.prog.underlying 43).isSome = true := by kernel_rfl
theorem ag_43 : aggSz Go.Proofs.Tryd.prog 43 = some 24 := by kernel_rfl
theorem st_43 : stPl Go.Proofs.Tryd.prog 43 = some [(0, 11), (11, 5), (16, 1), (17, 7)] := by kernel_rfl
theorem zc_43 : zeroCs Go.Proofs.Tryd.prog 43 = some [(Go.Value.int Go.IntKind.i64 0), (Go.Value.slice none 0 0), (Go.Value.int Go.IntKind.u64 0), (Go.Value.int Go.IntKind.i64 0), (Go.Value.int Go.IntKind.u64 0), (Go.Value.int Go.IntKind.u64 0), (Go.Value.slice none 0 0), (Go.Value.bool false), (Go.Value.bool false), (Go.Value.slice none 0 0), (Go.Value.string { data := #[] }), (Go.Value.int Go.IntKind.i64 0), (Go.Value.slice none 0 0), (Go.Value.int Go.IntKind.u64 0), (Go.Value.string { data := #[] }), (Go.Value.slice none 0 0), (Go.Value.slice none 0 0), (Go.Value.int Go.IntKind.i64 0), (Go.Value.int Go.IntKind.i64 0), (Go.Value.int Go.IntKind.i64 0), (Go.Value.int Go.IntKind.i64 0), (Go.Value.int Go.IntKind.i64 0), (Go.Value.int Go.IntKind.i64 0), (Go.Value.int Go.IntKind.i64 0)] := by kernel_rfl
theorem u_51 : Go.Proofs.Tryd.prog.underlying 51 = some (Go.TypeDesc.pointer 60) := by kernel_rfl
theorem us_51 : (Go.Proofs.Tryd.prog.underlying 51).isSome = true := by kernel_rfl
theorem sc_51 : scal Go.Proofs.Tryd.prog 51 = true := by kernel_rfl
theorem zc_51 : zeroCs Go.Proofs.Tryd.prog 51 = some [(Go.Value.pointer none)] := by kernel_rfl
theorem u_52 : Go.Proofs.Tryd.prog.underlying 52 = some (Go.TypeDesc.slice 31) := by kernel_rfl
theorem us_52 : (Go.Proofs.Tryd.prog.underlying 52).isSome = true := by kernel_rfl
theorem sc_52 : scal Go.Proofs.Tryd.prog 52 = true := by kernel_rfl
theorem zc_52 : zeroCs Go.Proofs.Tryd.prog 52 = some [(Go.Value.slice none 0 0)] := by kernel_rfl
theorem sl_52 : slElem Go.Proofs.Tryd.prog 52 = some (31, 1) := by kernel_rfl
theorem ap_52 : apT Go.Proofs.Tryd.prog 52 = some (31, 1, 24, [(Go.Value.slice none 0 0)]) := by kernel_rfl
theorem ni_52 : notInt Go.Proofs.Tryd.prog 52 = true := by kernel_rfl
theorem u_53 : Go.Proofs.Tryd.prog.underlying 53 = some (Go.TypeDesc.slice 39) := by kernel_rfl
theorem us_53 : (Go.Proofs.Tryd.prog.underlying 53).isSome = true := by kernel_rfl
theorem sc_53 : scal Go.Proofs.Tryd.prog 53 = true := by kernel_rfl
theorem zc_53 : zeroCs Go.Proofs.Tryd.prog 53 = some [(Go.Value.slice none 0 0)] := by kernel_rfl
theorem sl_53 : slElem Go.Proofs.Tryd.prog 53 = some (39, 1) := by kernel_rfl
theorem ap_53 : apT Go.Proofs.Tryd.prog 53 = some (39, 1, 24, [(Go.Value.slice none 0 0)]) := by kernel_rfl
theorem ni_53 : notInt Go.Proofs.Tryd.prog 53 = true := by kernel_rfl
theorem u_54 : Go.Proofs.Tryd.prog.underlying 54 = some (Go.TypeDesc.slice 29) := by kernel_rfl
theorem us_54 : (Go.Proofs.Tryd.prog.underlying 54).isSome = true := by kernel_rfl
theorem sc_54 : scal Go.Proofs.Tryd.prog 54 = true := by kernel_rfl
theorem zc_54 : zeroCs Go.Proofs.Tryd.prog 54 = some [(Go.Value.slice none 0 0)] := by kernel_rfl
theorem sl_54 : slElem Go.Proofs.Tryd.prog 54 = some (29, 1) := by kernel_rfl
theorem ap_54 : apT Go.Proofs.Tryd.prog 54 = some (29, 1, 24, [(Go.Value.slice none 0 0)]) := by kernel_rfl
theorem ni_54 : notInt Go.Proofs.Tryd.prog 54 = true := by kernel_rfl
theorem u_55 : Go.Proofs.Tryd.prog.underlying 55 = some (Go.TypeDesc.slice 122) := by kernel_rfl
theorem us_55 : (Go.Proofs.Tryd.prog.underlying 55).isSome = true := by kernel_rfl
theorem sc_55 : scal Go.Proofs.Tryd.prog 55 = true := by kernel_rfl
theorem zc_55 : zeroCs Go.Proofs.Tryd.prog 55 = some [(Go.Value.slice none 0 0)] := by kernel_rfl
theorem sl_55 : slElem Go.Proofs.Tryd.prog 55 = some (122, 1) := by kernel_rfl
theorem ap_55 : apT Go.Proofs.Tryd.prog 55 = some (122, 1, 24, [(Go.Value.slice none 0 0)]) := by kernel_rfl
theorem ni_55 : notInt Go.Proofs.Tryd.prog 55 = true := by kernel_rfl
theorem u_56 : Go.Proofs.Tryd.prog.underlying 56 = some (Go.TypeDesc.slice 35) := by kernel_rfl
theorem us_56 : (Go.Proofs.Tryd.prog.underlying 56).isSome = true := by kernel_rfl
theorem sc_56 : scal Go.Proofs.Tryd.prog 56 = true := by kernel_rfl
theorem zc_56 : zeroCs Go.Proofs.Tryd.prog 56 = some [(Go.Value.slice none 0 0)] := by kernel_rfl
theorem sl_56 : slElem Go.Proofs.Tryd.prog 56 = some (35, 1) := by kernel_rfl
theorem ap_56 : apT Go.Proofs.Tryd.prog 56 = some (35, 1, 24, [(Go.Value.slice none 0 0)]) := by kernel_rfl
theorem ni_56 : notInt Go.Proofs.Tryd.prog 56 = true := by kernel_rfl
theorem u_57 : Go.Proofs.Tryd.prog.underlying 57 = some (Go.TypeDesc.slice 132) := by kernel_rfl
theorem us_57 : (Go.Proofs.Tryd.prog.underlying 57).isSome = true := by kernel_rfl
theorem sc_57 : scal Go.Proofs.Tryd.prog 57 = true := by kernel_rfl
theorem zc_57 : zeroCs Go.Proofs.Tryd.prog 57 = some [(Go.Value.slice none 0 0)] := by kernel_rfl
theorem sl_57 : slElem Go.Proofs.Tryd.prog 57 = some (132, 1) := by kernel_rfl
theorem ap_57 : apT Go.Proofs.Tryd.prog 57 = some (132, 1, 24, [(Go.Value.slice none 0 0)]) := by kernel_rfl
theorem ni_57 : notInt Go.Proofs.Tryd.prog 57 = true := by kernel_rfl
theorem u_58 : Go.Proofs.Tryd.prog.underlying 58 = some (Go.TypeDesc.slice 134) := by kernel_rfl
theorem us_58 : (Go.Proofs.Tryd.prog.underlying 58).isSome = true := by kernel_rfl
theorem sc_58 : scal Go.Proofs.Tryd.prog 58 = true := by kernel_rfl
theorem zc_58 : zeroCs Go.Proofs.Tryd.prog 58 = some [(Go.Value.slice none 0 0)] := by kernel_rfl
theorem sl_58 : slElem Go.Proofs.Tryd.prog 58 = some (134, 1) := by kernel_rfl
theorem ap_58 : apT Go.Proofs.Tryd.prog 58 = some (134, 1, 24, [(Go.Value.slice none 0 0)]) := by kernel_rfl
theorem ni_58 : notInt Go.Proofs.Tryd.prog 58 = true := by kernel_rfl
theorem u_60 : Go.Proofs.Tryd.prog.underlying 60 = some (Go.TypeDesc.struct #[{ name := "bytes", type := 52, offset := 0, embedded := false, tag := "", pkgPath := "granary/granarykeep", byteOffset := 0 }, { name := "bytesWant", type := 52, offset := 1, embedded := false, tag := "", pkgPath := "granary/granarykeep", byteOffset := 24 }, { name := "bytesOne", type := 52, offset := 2, embedded := false, tag := "", pkgPath := "granary/granarykeep", byteOffset := 48 }, { name := "bytesMany", type := 52, offset := 3, embedded := false, tag := "", pkgPath := "granary/granarykeep", byteOffset := 72 }, { name := "ints", type := 53, offset := 4, embedded := false, tag := "", pkgPath := "granary/granarykeep", byteOffset := 96 }, { name := "intsWant", type := 53, offset := 5, embedded := false, tag := "", pkgPath := "granary/granarykeep", byteOffset := 120 }, { name := "intsOne", type := 53, offset := 6, embedded := false, tag := "", pkgPath := "granary/granarykeep", byteOffset := 144 }, { name := "intsMany", type := 53, offset := 7, embedded := false, tag := "", pkgPath := "granary/granarykeep", byteOffset := 168 }, { name := "texts", type := 54, offset := 8, embedded := false, tag := "", pkgPath := "granary/granarykeep", byteOffset := 192 }, { name := "textsWant", type := 54, offset := 9, embedded := false, tag := "", pkgPath := "granary/granarykeep", byteOffset := 216 }, { name := "textsOne", type := 54, offset := 10, embedded := false, tag := "", pkgPath := "granary/granarykeep", byteOffset := 240 }, { name := "textsMany", type := 54, offset := 11, embedded := false, tag := "", pkgPath := "granary/granarykeep", byteOffset := 264 }, { name := "handles", type := 55, offset := 12, embedded := false, tag := "", pkgPath := "granary/granarykeep", byteOffset := 288 }, { name := "handlesWant", type := 55, offset := 13, embedded := false, tag := "", pkgPath := "granary/granarykeep", byteOffset := 312 }, { name := "handlesOne", type := 55, offset := 14, embedded := false, tag := "", pkgPath := "granary/granarykeep", byteOffset := 336 }, { name := "handlesMany", type := 55, offset := 15, embedded := false, tag := "", pkgPath := "granary/granarykeep", byteOffset := 360 }, { name := "entries", type := 56, offset := 16, embedded := false, tag := "", pkgPath := "granary/granarykeep", byteOffset := 384 }, { name := "entriesOne", type := 56, offset := 17, embedded := false, tag := "", pkgPath := "granary/granarykeep", byteOffset := 408 }, { name := "entriesMany", type := 56, offset := 18, embedded := false, tag := "", pkgPath := "granary/granarykeep", byteOffset := 432 }, { name := "answers", type := 57, offset := 19, embedded := false, tag := "", pkgPath := "granary/granarykeep", byteOffset := 456 }, { name := "answersOne", type := 57, offset := 20, embedded := false, tag := "", pkgPath := "granary/granarykeep", byteOffset := 480 }, { name := "answersMany", type := 57, offset := 21, embedded := false, tag := "", pkgPath := "granary/granarykeep", byteOffset := 504 }, { name := "steps", type := 58, offset := 22, embedded := false, tag := "", pkgPath := "granary/granarykeep", byteOffset := 528 }, { name := "stepsOne", type := 58, offset := 23, embedded := false, tag := "", pkgPath := "granary/granarykeep", byteOffset := 552 }, { name := "stepsMany", type := 58, offset := 24, embedded := false, tag := "", pkgPath := "granary/granarykeep", byteOffset := 576 }, { name := "entriesWant", type := 56, offset := 25, embedded := false, tag := "", pkgPath := "granary/granarykeep", byteOffset := 600 }, { name := "n", type := 3, offset := 26, embedded := false, tag := "", pkgPath := "granary/granarykeep", byteOffset := 624 }]) := by kernel_rfl
theorem us_60 : (Go.Proofs.Tryd.prog.underlying 60).isSome = true := by kernel_rfl
theorem ag_60 : aggSz Go.Proofs.Tryd.prog 60 = some 27 := by kernel_rfl
theorem st_60 : stPl Go.Proofs.Tryd.prog 60 = some [(0, 1), (1, 1), (2, 1), (3, 1), (4, 1), (5, 1), (6, 1), (7, 1), (8, 1), (9, 1), (10, 1), (11, 1), (12, 1), (13, 1), (14, 1), (15, 1), (16, 1), (17, 1), (18, 1), (19, 1), (20, 1), (21, 1), (22, 1), (23, 1), (24, 1), (25, 1), (26, 1)] := by kernel_rfl
theorem zc_60 : zeroCs Go.Proofs.Tryd.prog 60 = some [(Go.Value.slice none 0 0), (Go.Value.slice none 0 0), (Go.Value.slice none 0 0), (Go.Value.slice none 0 0), (Go.Value.slice none 0 0), (Go.Value.slice none 0 0), (Go.Value.slice none 0 0), (Go.Value.slice none 0 0), (Go.Value.slice none 0 0), (Go.Value.slice none 0 0), (Go.Value.slice none 0 0), (Go.Value.slice none 0 0), (Go.Value.slice none 0 0), (Go.Value.slice none 0 0), (Go.Value.slice none 0 0), (Go.Value.slice none 0 0), (Go.Value.slice none 0 0), (Go.Value.slice none 0 0), (Go.Value.slice none 0 0), (Go.Value.slice none 0 0), (Go.Value.slice none 0 0), (Go.Value.slice none 0 0), (Go.Value.slice none 0 0), (Go.Value.slice none 0 0), (Go.Value.slice none 0 0), (Go.Value.slice none 0 0), (Go.Value.int Go.IntKind.i64 0)] := by kernel_rfl
theorem u_61 : Go.Proofs.Tryd.prog.underlying 61 = some (Go.TypeDesc.slice 36) := by kernel_rfl
theorem us_61 : (Go.Proofs.Tryd.prog.underlying 61).isSome = true := by kernel_rfl
theorem sc_61 : scal Go.Proofs.Tryd.prog 61 = true := by kernel_rfl
theorem zc_61 : zeroCs Go.Proofs.Tryd.prog 61 = some [(Go.Value.slice none 0 0)] := by kernel_rfl
theorem sl_61 : slElem Go.Proofs.Tryd.prog 61 = some (36, 1) := by kernel_rfl
theorem ap_61 : apT Go.Proofs.Tryd.prog 61 = some (36, 1, 24, [(Go.Value.slice none 0 0)]) := by kernel_rfl
theorem ni_61 : notInt Go.Proofs.Tryd.prog 61 = true := by kernel_rfl
theorem u_63 : Go.Proofs.Tryd.prog.underlying 63 = some (Go.TypeDesc.struct #[{ name := "Letter", type := 5, offset := 0, embedded := false, tag := "", pkgPath := "", byteOffset := 0 }, { name := "Arg", type := 9, offset := 1, embedded := false, tag := "", pkgPath := "", byteOffset := 8 }, { name := "Has", type := 4, offset := 2, embedded := false, tag := "", pkgPath := "", byteOffset := 24 }]) := by kernel_rfl
theorem us_63 : (Go.Proofs.Tryd.prog.underlying 63).isSome = true := by kernel_rfl
theorem ag_63 : aggSz Go.Proofs.Tryd.prog 63 = some 3 := by kernel_rfl
theorem st_63 : stPl Go.Proofs.Tryd.prog 63 = some [(0, 1), (1, 1), (2, 1)] := by kernel_rfl
theorem zc_63 : zeroCs Go.Proofs.Tryd.prog 63 = some [(Go.Value.int Go.IntKind.u8 0), (Go.Value.string { data := #[] }), (Go.Value.bool false)] := by kernel_rfl
theorem u_69 : Go.Proofs.Tryd.prog.underlying 69 = some (Go.TypeDesc.slice 73) := by kernel_rfl
theorem us_69 : (Go.Proofs.Tryd.prog.underlying 69).isSome = true := by kernel_rfl
theorem sc_69 : scal Go.Proofs.Tryd.prog 69 = true := by kernel_rfl
theorem zc_69 : zeroCs Go.Proofs.Tryd.prog 69 = some [(Go.Value.slice none 0 0)] := by kernel_rfl
theorem sl_69 : slElem Go.Proofs.Tryd.prog 69 = some (73, 28) := by kernel_rfl
theorem ap_69 : apT Go.Proofs.Tryd.prog 69 = some (73, 28, 328, [(Go.Value.int Go.IntKind.i64 0), (Go.Value.int Go.IntKind.i64 0), (Go.Value.int Go.IntKind.i64 0), (Go.Value.int Go.IntKind.u64 0), (Go.Value.int Go.IntKind.i64 0), (Go.Value.slice none 0 0), (Go.Value.int Go.IntKind.u64 0), (Go.Value.int Go.IntKind.i64 0), (Go.Value.int Go.IntKind.u64 0), (Go.Value.int Go.IntKind.u64 0), (Go.Value.slice none 0 0), (Go.Value.bool false), (Go.Value.bool false), (Go.Value.slice none 0 0), (Go.Value.string { data := #[] }), (Go.Value.int Go.IntKind.i64 0), (Go.Value.slice none 0 0), (Go.Value.int Go.IntKind.u64 0), (Go.Value.string { data := #[] }), (Go.Value.slice none 0 0), (Go.Value.slice none 0 0), (Go.Value.int Go.IntKind.i64 0), (Go.Value.int Go.IntKind.i64 0), (Go.Value.int Go.IntKind.i64 0), (Go.Value.int Go.IntKind.i64 0), (Go.Value.int Go.IntKind.i64 0), (Go.Value.int Go.IntKind.i64 0), (Go.Value.int Go.IntKind.i64 0)]) := by kernel_rfl
theorem ni_69 : notInt Go.Proofs.Tryd.prog 69 = true := by kernel_rfl
theorem u_70 : Go.Proofs.Tryd.prog.underlying 70 = some (Go.TypeDesc.slice 24) := by kernel_rfl
theorem us_70 : (Go.Proofs.Tryd.prog.underlying 70).isSome = true := by kernel_rfl
theorem sc_70 : scal Go.Proofs.Tryd.prog 70 = true := by kernel_rfl
theorem zc_70 : zeroCs Go.Proofs.Tryd.prog 70 = some [(Go.Value.slice none 0 0)] := by kernel_rfl
theorem sl_70 : slElem Go.Proofs.Tryd.prog 70 = some (24, 1) := by kernel_rfl
theorem ap_70 : apT Go.Proofs.Tryd.prog 70 = some (24, 1, 8, [(Go.Value.pointer none)]) := by kernel_rfl
theorem ni_70 : notInt Go.Proofs.Tryd.prog 70 = true := by kernel_rfl
theorem u_71 : Go.Proofs.Tryd.prog.underlying 71 = some (Go.TypeDesc.slice 26) := by kernel_rfl
theorem us_71 : (Go.Proofs.Tryd.prog.underlying 71).isSome = true := by kernel_rfl
theorem sc_71 : scal Go.Proofs.Tryd.prog 71 = true := by kernel_rfl
theorem zc_71 : zeroCs Go.Proofs.Tryd.prog 71 = some [(Go.Value.slice none 0 0)] := by kernel_rfl
theorem sl_71 : slElem Go.Proofs.Tryd.prog 71 = some (26, 1) := by kernel_rfl
theorem ap_71 : apT Go.Proofs.Tryd.prog 71 = some (26, 1, 8, [(Go.Value.pointer none)]) := by kernel_rfl
theorem ni_71 : notInt Go.Proofs.Tryd.prog 71 = true := by kernel_rfl
theorem u_73 : Go.Proofs.Tryd.prog.underlying 73 = some (Go.TypeDesc.struct #[{ name := "On", type := 3, offset := 0, embedded := false, tag := "", pkgPath := "", byteOffset := 0 }, { name := "Do", type := 3, offset := 1, embedded := false, tag := "", pkgPath := "", byteOffset := 8 }, { name := "Name", type := 3, offset := 2, embedded := false, tag := "", pkgPath := "", byteOffset := 16 }, { name := "N", type := 30, offset := 3, embedded := false, tag := "", pkgPath := "", byteOffset := 24 }, { name := "C", type := 34, offset := 4, embedded := false, tag := "", pkgPath := "", byteOffset := 32 }, { name := "A", type := 38, offset := 15, embedded := false, tag := "", pkgPath := "", byteOffset := 168 }, { name := "Why", type := 39, offset := 20, embedded := false, tag := "", pkgPath := "", byteOffset := 248 }, { name := "M", type := 41, offset := 21, embedded := false, tag := "", pkgPath := "", byteOffset := 272 }]) := by kernel_rfl
theorem us_73 : (Go.Proofs.Tryd.prog.underlying 73).isSome = true := by kernel_rfl
theorem ag_73 : aggSz Go.Proofs.Tryd.prog 73 = some 28 := by kernel_rfl
theorem st_73 : stPl Go.Proofs.Tryd.prog 73 = some [(0, 1), (1, 1), (2, 1), (3, 1), (4, 11), (15, 5), (20, 1), (21, 7)] := by kernel_rfl
theorem zc_73 : zeroCs Go.Proofs.Tryd.prog 73 = some [(Go.Value.int Go.IntKind.i64 0), (Go.Value.int Go.IntKind.i64 0), (Go.Value.int Go.IntKind.i64 0), (Go.Value.int Go.IntKind.u64 0), (Go.Value.int Go.IntKind.i64 0), (Go.Value.slice none 0 0), (Go.Value.int Go.IntKind.u64 0), (Go.Value.int Go.IntKind.i64 0), (Go.Value.int Go.IntKind.u64 0), (Go.Value.int Go.IntKind.u64 0), (Go.Value.slice none 0 0), (Go.Value.bool false), (Go.Value.bool false), (Go.Value.slice none 0 0), (Go.Value.string { data := #[] }), (Go.Value.int Go.IntKind.i64 0), (Go.Value.slice none 0 0), (Go.Value.int Go.IntKind.u64 0), (Go.Value.string { data := #[] }), (Go.Value.slice none 0 0), (Go.Value.slice none 0 0), (Go.Value.int Go.IntKind.i64 0), (Go.Value.int Go.IntKind.i64 0), (Go.Value.int Go.IntKind.i64 0), (Go.Value.int Go.IntKind.i64 0), (Go.Value.int Go.IntKind.i64 0), (Go.Value.int Go.IntKind.i64 0), (Go.Value.int Go.IntKind.i64 0)] := by kernel_rfl
theorem u_76 : Go.Proofs.Tryd.prog.underlying 76 = some (Go.TypeDesc.slice 30) := by kernel_rfl
theorem us_76 : (Go.Proofs.Tryd.prog.underlying 76).isSome = true := by kernel_rfl
theorem sc_76 : scal Go.Proofs.Tryd.prog 76 = true := by kernel_rfl
theorem zc_76 : zeroCs Go.Proofs.Tryd.prog 76 = some [(Go.Value.slice none 0 0)] := by kernel_rfl
theorem sl_76 : slElem Go.Proofs.Tryd.prog 76 = some (30, 1) := by kernel_rfl
theorem ap_76 : apT Go.Proofs.Tryd.prog 76 = some (30, 1, 8, [(Go.Value.int Go.IntKind.u64 0)]) := by kernel_rfl
theorem ni_76 : notInt Go.Proofs.Tryd.prog 76 = true := by kernel_rfl
theorem u_78 : Go.Proofs.Tryd.prog.underlying 78 = some (Go.TypeDesc.struct #[{ name := "Name", type := 9, offset := 0, embedded := false, tag := "", pkgPath := "", byteOffset := 0 }, { name := "Value", type := 30, offset := 1, embedded := false, tag := "", pkgPath := "", byteOffset := 16 }]) := by kernel_rfl
theorem us_78 : (Go.Proofs.Tryd.prog.underlying 78).isSome = true := by kernel_rfl
theorem ag_78 : aggSz Go.Proofs.Tryd.prog 78 = some 2 := by kernel_rfl
theorem st_78 : stPl Go.Proofs.Tryd.prog 78 = some [(0, 1), (1, 1)] := by kernel_rfl
theorem zc_78 : zeroCs Go.Proofs.Tryd.prog 78 = some [(Go.Value.string { data := #[] }), (Go.Value.int Go.IntKind.u64 0)] := by kernel_rfl
theorem u_82 : Go.Proofs.Tryd.prog.underlying 82 = some (Go.TypeDesc.int Go.IntKind.u32) := by kernel_rfl
theorem us_82 : (Go.Proofs.Tryd.prog.underlying 82).isSome = true := by kernel_rfl
theorem sc_82 : scal Go.Proofs.Tryd.prog 82 = true := by kernel_rfl
theorem zc_82 : zeroCs Go.Proofs.Tryd.prog 82 = some [(Go.Value.int Go.IntKind.u32 0)] := by kernel_rfl
theorem u_84 : Go.Proofs.Tryd.prog.underlying 84 = some (Go.TypeDesc.struct #[{ name := "state", type := 21, offset := 0, embedded := false, tag := "", pkgPath := "internal/sync", byteOffset := 0 }, { name := "sema", type := 82, offset := 1, embedded := false, tag := "", pkgPath := "internal/sync", byteOffset := 4 }]) := by kernel_rfl
theorem us_84 : (Go.Proofs.Tryd.prog.underlying 84).isSome = true := by kernel_rfl
theorem ag_84 : aggSz Go.Proofs.Tryd.prog 84 = some 2 := by kernel_rfl
theorem st_84 : stPl Go.Proofs.Tryd.prog 84 = some [(0, 1), (1, 1)] := by kernel_rfl
theorem zc_84 : zeroCs Go.Proofs.Tryd.prog 84 = some [(Go.Value.int Go.IntKind.i32 0), (Go.Value.int Go.IntKind.u32 0)] := by kernel_rfl
theorem u_86 : Go.Proofs.Tryd.prog.underlying 86 = some (Go.TypeDesc.struct #[{ name := "_", type := 81, offset := 0, embedded := false, tag := "", pkgPath := "sync", byteOffset := 0 }, { name := "mu", type := 84, offset := 0, embedded := false, tag := "", pkgPath := "sync", byteOffset := 0 }]) := by kernel_rfl
theorem us_86 : (Go.Proofs.Tryd.prog.underlying 86).isSome = true := by kernel_rfl
theorem ag_86 : aggSz Go.Proofs.Tryd.prog 86 = some 2 := by kernel_rfl
theorem st_86 : stPl Go.Proofs.Tryd.prog 86 = some [(0, 0), (0, 2)] := by kernel_rfl
theorem zc_86 : zeroCs Go.Proofs.Tryd.prog 86 = some [(Go.Value.int Go.IntKind.i32 0), (Go.Value.int Go.IntKind.u32 0)] := by kernel_rfl
theorem u_87 : Go.Proofs.Tryd.prog.underlying 87 = some (Go.TypeDesc.array 32 30) := by kernel_rfl
theorem us_87 : (Go.Proofs.Tryd.prog.underlying 87).isSome = true := by kernel_rfl
theorem ag_87 : aggSz Go.Proofs.Tryd.prog 87 = some 32 := by kernel_rfl
theorem zc_87 : zeroCs Go.Proofs.Tryd.prog 87 = some [(Go.Value.int Go.IntKind.u64 0), (Go.Value.int Go.IntKind.u64 0), (Go.Value.int Go.IntKind.u64 0), (Go.Value.int Go.IntKind.u64 0), (Go.Value.int Go.IntKind.u64 0), (Go.Value.int Go.IntKind.u64 0), (Go.Value.int Go.IntKind.u64 0), (Go.Value.int Go.IntKind.u64 0), (Go.Value.int Go.IntKind.u64 0), (Go.Value.int Go.IntKind.u64 0), (Go.Value.int Go.IntKind.u64 0), (Go.Value.int Go.IntKind.u64 0), (Go.Value.int Go.IntKind.u64 0), (Go.Value.int Go.IntKind.u64 0), (Go.Value.int Go.IntKind.u64 0), (Go.Value.int Go.IntKind.u64 0), (Go.Value.int Go.IntKind.u64 0), (Go.Value.int Go.IntKind.u64 0), (Go.Value.int Go.IntKind.u64 0), (Go.Value.int Go.IntKind.u64 0), (Go.Value.int Go.IntKind.u64 0), (Go.Value.int Go.IntKind.u64 0), (Go.Value.int Go.IntKind.u64 0), (Go.Value.int Go.IntKind.u64 0), (Go.Value.int Go.IntKind.u64 0), (Go.Value.int Go.IntKind.u64 0), (Go.Value.int Go.IntKind.u64 0), (Go.Value.int Go.IntKind.u64 0), (Go.Value.int Go.IntKind.u64 0), (Go.Value.int Go.IntKind.u64 0), (Go.Value.int Go.IntKind.u64 0), (Go.Value.int Go.IntKind.u64 0)] := by kernel_rfl
theorem ar_87 : arT Go.Proofs.Tryd.prog 87 = some (32, 30, 1) := by kernel_rfl
theorem u_89 : Go.Proofs.Tryd.prog.underlying 89 = some (Go.TypeDesc.struct #[{ name := "mu", type := 86, offset := 0, embedded := false, tag := "", pkgPath := "granary/count", byteOffset := 0 }, { name := "n", type := 87, offset := 2, embedded := false, tag := "", pkgPath := "granary/count", byteOffset := 8 }]) := by kernel_rfl
theorem us_89 : (Go.Proofs.Tryd.prog.underlying 89).isSome = true := by kernel_rfl
theorem ag_89 : aggSz Go.Proofs.Tryd.prog 89 = some 34 := by kernel_rfl
theorem st_89 : stPl Go.Proofs.Tryd.prog 89 = some [(0, 2), (2, 32)] := by kernel_rfl
theorem zc_89 : zeroCs Go.Proofs.Tryd.prog 89 = some [(Go.Value.int Go.IntKind.i32 0), (Go.Value.int Go.IntKind.u32 0), (Go.Value.int Go.IntKind.u64 0), (Go.Value.int Go.IntKind.u64 0), (Go.Value.int Go.IntKind.u64 0), (Go.Value.int Go.IntKind.u64 0), (Go.Value.int Go.IntKind.u64 0), (Go.Value.int Go.IntKind.u64 0), (Go.Value.int Go.IntKind.u64 0), (Go.Value.int Go.IntKind.u64 0), (Go.Value.int Go.IntKind.u64 0), (Go.Value.int Go.IntKind.u64 0), (Go.Value.int Go.IntKind.u64 0), (Go.Value.int Go.IntKind.u64 0), (Go.Value.int Go.IntKind.u64 0), (Go.Value.int Go.IntKind.u64 0), (Go.Value.int Go.IntKind.u64 0), (Go.Value.int Go.IntKind.u64 0), (Go.Value.int Go.IntKind.u64 0), (Go.Value.int Go.IntKind.u64 0), (Go.Value.int Go.IntKind.u64 0), (Go.Value.int Go.IntKind.u64 0), (Go.Value.int Go.IntKind.u64 0), (Go.Value.int Go.IntKind.u64 0), (Go.Value.int Go.IntKind.u64 0), (Go.Value.int Go.IntKind.u64 0), (Go.Value.int Go.IntKind.u64 0), (Go.Value.int Go.IntKind.u64 0), (Go.Value.int Go.IntKind.u64 0), (Go.Value.int Go.IntKind.u64 0), (Go.Value.int Go.IntKind.u64 0), (Go.Value.int Go.IntKind.u64 0), (Go.Value.int Go.IntKind.u64 0), (Go.Value.int Go.IntKind.u64 0)] := by kernel_rfl
theorem u_91 : Go.Proofs.Tryd.prog.underlying 91 = some (Go.TypeDesc.struct #[{ name := "N", type := 87, offset := 0, embedded := false, tag := "", pkgPath := "", byteOffset := 0 }]) := by kernel_rfl
theorem us_91 : (Go.Proofs.Tryd.prog.underlying 91).isSome = true := by kernel_rfl
theorem ag_91 : aggSz Go.Proofs.Tryd.prog 91 = some 32 := by kernel_rfl
theorem st_91 : stPl Go.Proofs.Tryd.prog 91 = some [(0, 32)] := by kernel_rfl
theorem zc_91 : zeroCs Go.Proofs.Tryd.prog 91 = some [(Go.Value.int Go.IntKind.u64 0), (Go.Value.int Go.IntKind.u64 0), (Go.Value.int Go.IntKind.u64 0), (Go.Value.int Go.IntKind.u64 0), (Go.Value.int Go.IntKind.u64 0), (Go.Value.int Go.IntKind.u64 0), (Go.Value.int Go.IntKind.u64 0), (Go.Value.int Go.IntKind.u64 0), (Go.Value.int Go.IntKind.u64 0), (Go.Value.int Go.IntKind.u64 0), (Go.Value.int Go.IntKind.u64 0), (Go.Value.int Go.IntKind.u64 0), (Go.Value.int Go.IntKind.u64 0), (Go.Value.int Go.IntKind.u64 0), (Go.Value.int Go.IntKind.u64 0), (Go.Value.int Go.IntKind.u64 0), (Go.Value.int Go.IntKind.u64 0), (Go.Value.int Go.IntKind.u64 0), (Go.Value.int Go.IntKind.u64 0), (Go.Value.int Go.IntKind.u64 0), (Go.Value.int Go.IntKind.u64 0), (Go.Value.int Go.IntKind.u64 0), (Go.Value.int Go.IntKind.u64 0), (Go.Value.int Go.IntKind.u64 0), (Go.Value.int Go.IntKind.u64 0), (Go.Value.int Go.IntKind.u64 0), (Go.Value.int Go.IntKind.u64 0), (Go.Value.int Go.IntKind.u64 0), (Go.Value.int Go.IntKind.u64 0), (Go.Value.int Go.IntKind.u64 0), (Go.Value.int Go.IntKind.u64 0), (Go.Value.int Go.IntKind.u64 0)] := by kernel_rfl
theorem u_97 : Go.Proofs.Tryd.prog.underlying 97 = some (Go.TypeDesc.array 4 3) := by kernel_rfl
theorem us_97 : (Go.Proofs.Tryd.prog.underlying 97).isSome = true := by kernel_rfl
theorem ag_97 : aggSz Go.Proofs.Tryd.prog 97 = some 4 := by kernel_rfl
theorem zc_97 : zeroCs Go.Proofs.Tryd.prog 97 = some [(Go.Value.int Go.IntKind.i64 0), (Go.Value.int Go.IntKind.i64 0), (Go.Value.int Go.IntKind.i64 0), (Go.Value.int Go.IntKind.i64 0)] := by kernel_rfl
theorem ar_97 : arT Go.Proofs.Tryd.prog 97 = some (4, 3, 1) := by kernel_rfl
theorem u_112 : Go.Proofs.Tryd.prog.underlying 112 = some (Go.TypeDesc.map 3 3) := by kernel_rfl
theorem us_112 : (Go.Proofs.Tryd.prog.underlying 112).isSome = true := by kernel_rfl
theorem sc_112 : scal Go.Proofs.Tryd.prog 112 = true := by kernel_rfl
theorem zc_112 : zeroCs Go.Proofs.Tryd.prog 112 = some [(Go.Value.map none)] := by kernel_rfl
theorem u_117 : Go.Proofs.Tryd.prog.underlying 117 = some (Go.TypeDesc.array 256 5) := by kernel_rfl
theorem us_117 : (Go.Proofs.Tryd.prog.underlying 117).isSome = true := by kernel_rfl
theorem ag_117 : aggSz Go.Proofs.Tryd.prog 117 = some 256 := by kernel_rfl
theorem ar_117 : arT Go.Proofs.Tryd.prog 117 = some (256, 5, 1) := by kernel_rfl
theorem u_119 : Go.Proofs.Tryd.prog.underlying 119 = some (Go.TypeDesc.func #[21] #[4] false) := by kernel_rfl
theorem us_119 : (Go.Proofs.Tryd.prog.underlying 119).isSome = true := by kernel_rfl
theorem sc_119 : scal Go.Proofs.Tryd.prog 119 = true := by kernel_rfl
theorem zc_119 : zeroCs Go.Proofs.Tryd.prog 119 = some [Go.Value.nilFunc] := by kernel_rfl
theorem u_122 : Go.Proofs.Tryd.prog.underlying 122 = some (Go.TypeDesc.slice 127) := by kernel_rfl
theorem us_122 : (Go.Proofs.Tryd.prog.underlying 122).isSome = true := by kernel_rfl
theorem sc_122 : scal Go.Proofs.Tryd.prog 122 = true := by kernel_rfl
theorem zc_122 : zeroCs Go.Proofs.Tryd.prog 122 = some [(Go.Value.slice none 0 0)] := by kernel_rfl
theorem sl_122 : slElem Go.Proofs.Tryd.prog 122 = some (127, 1) := by kernel_rfl
theorem ap_122 : apT Go.Proofs.Tryd.prog 122 = some (127, 1, 8, [(Go.Value.int Go.IntKind.u64 0)]) := by kernel_rfl
theorem ni_122 : notInt Go.Proofs.Tryd.prog 122 = true := by kernel_rfl
theorem u_127 : Go.Proofs.Tryd.prog.underlying 127 = some (Go.TypeDesc.int Go.IntKind.u64) := by kernel_rfl
theorem us_127 : (Go.Proofs.Tryd.prog.underlying 127).isSome = true := by kernel_rfl
theorem sc_127 : scal Go.Proofs.Tryd.prog 127 = true := by kernel_rfl
theorem zc_127 : zeroCs Go.Proofs.Tryd.prog 127 = some [(Go.Value.int Go.IntKind.u64 0)] := by kernel_rfl
theorem u_130 : Go.Proofs.Tryd.prog.underlying 130 = some (Go.TypeDesc.struct #[{ name := "Key", type := 9, offset := 0, embedded := false, tag := "", pkgPath := "", byteOffset := 0 }, { name := "Value", type := 31, offset := 1, embedded := false, tag := "", pkgPath := "", byteOffset := 16 }, { name := "Flags", type := 30, offset := 2, embedded := false, tag := "", pkgPath := "", byteOffset := 40 }, { name := "Expiry", type := 3, offset := 3, embedded := false, tag := "", pkgPath := "", byteOffset := 48 }, { name := "Token", type := 30, offset := 4, embedded := false, tag := "", pkgPath := "", byteOffset := 56 }, { name := "Touched", type := 3, offset := 5, embedded := false, tag := "", pkgPath := "", byteOffset := 64 }, { name := "Stale", type := 4, offset := 6, embedded := false, tag := "", pkgPath := "", byteOffset := 72 }, { name := "Won", type := 4, offset := 7, embedded := false, tag := "", pkgPath := "", byteOffset := 73 }, { name := "Hit", type := 4, offset := 8, embedded := false, tag := "", pkgPath := "", byteOffset := 74 }]) := by kernel_rfl
theorem us_130 : (Go.Proofs.Tryd.prog.underlying 130).isSome = true := by kernel_rfl
theorem ag_130 : aggSz Go.Proofs.Tryd.prog 130 = some 9 := by kernel_rfl
theorem st_130 : stPl Go.Proofs.Tryd.prog 130 = some [(0, 1), (1, 1), (2, 1), (3, 1), (4, 1), (5, 1), (6, 1), (7, 1), (8, 1)] := by kernel_rfl
theorem zc_130 : zeroCs Go.Proofs.Tryd.prog 130 = some [(Go.Value.string { data := #[] }), (Go.Value.slice none 0 0), (Go.Value.int Go.IntKind.u64 0), (Go.Value.int Go.IntKind.i64 0), (Go.Value.int Go.IntKind.u64 0), (Go.Value.int Go.IntKind.i64 0), (Go.Value.bool false), (Go.Value.bool false), (Go.Value.bool false)] := by kernel_rfl
theorem u_132 : Go.Proofs.Tryd.prog.underlying 132 = some (Go.TypeDesc.slice 38) := by kernel_rfl
theorem us_132 : (Go.Proofs.Tryd.prog.underlying 132).isSome = true := by kernel_rfl
theorem sc_132 : scal Go.Proofs.Tryd.prog 132 = true := by kernel_rfl
theorem zc_132 : zeroCs Go.Proofs.Tryd.prog 132 = some [(Go.Value.slice none 0 0)] := by kernel_rfl
theorem sl_132 : slElem Go.Proofs.Tryd.prog 132 = some (38, 5) := by kernel_rfl
theorem ap_132 : apT Go.Proofs.Tryd.prog 132 = some (38, 5, 80, [(Go.Value.int Go.IntKind.i64 0), (Go.Value.slice none 0 0), (Go.Value.int Go.IntKind.u64 0), (Go.Value.string { data := #[] }), (Go.Value.slice none 0 0)]) := by kernel_rfl
theorem ni_132 : notInt Go.Proofs.Tryd.prog 132 = true := by kernel_rfl
theorem u_134 : Go.Proofs.Tryd.prog.underlying 134 = some (Go.TypeDesc.slice 138) := by kernel_rfl
theorem us_134 : (Go.Proofs.Tryd.prog.underlying 134).isSome = true := by kernel_rfl
theorem sc_134 : scal Go.Proofs.Tryd.prog 134 = true := by kernel_rfl
theorem zc_134 : zeroCs Go.Proofs.Tryd.prog 134 = some [(Go.Value.slice none 0 0)] := by kernel_rfl
theorem sl_134 : slElem Go.Proofs.Tryd.prog 134 = some (138, 16) := by kernel_rfl
theorem ap_134 : apT Go.Proofs.Tryd.prog 134 = some (138, 16, 184, [(Go.Value.int Go.IntKind.i64 0), (Go.Value.slice none 0 0), (Go.Value.int Go.IntKind.u64 0), (Go.Value.int Go.IntKind.i64 0), (Go.Value.int Go.IntKind.u64 0), (Go.Value.int Go.IntKind.u64 0), (Go.Value.slice none 0 0), (Go.Value.bool false), (Go.Value.bool false), (Go.Value.slice none 0 0), (Go.Value.string { data := #[] }), (Go.Value.int Go.IntKind.i64 0), (Go.Value.string { data := #[] }), (Go.Value.int Go.IntKind.i64 0), (Go.Value.int Go.IntKind.i64 0), (Go.Value.int Go.IntKind.i64 0)]) := by kernel_rfl
theorem ni_134 : notInt Go.Proofs.Tryd.prog 134 = true := by kernel_rfl
theorem u_138 : Go.Proofs.Tryd.prog.underlying 138 = some (Go.TypeDesc.struct #[{ name := "Command", type := 34, offset := 0, embedded := false, tag := "", pkgPath := "", byteOffset := 0 }, { name := "Wrong", type := 136, offset := 11, embedded := false, tag := "", pkgPath := "", byteOffset := 136 }, { name := "From", type := 3, offset := 14, embedded := false, tag := "", pkgPath := "", byteOffset := 168 }, { name := "To", type := 3, offset := 15, embedded := false, tag := "", pkgPath := "", byteOffset := 176 }]) := by kernel_rfl
theorem us_138 : (Go.Proofs.Tryd.prog.underlying 138).isSome = true := by kernel_rfl
theorem ag_138 : aggSz Go.Proofs.Tryd.prog 138 = some 16 := by kernel_rfl
theorem st_138 : stPl Go.Proofs.Tryd.prog 138 = some [(0, 11), (11, 3), (14, 1), (15, 1)] := by kernel_rfl
theorem zc_138 : zeroCs Go.Proofs.Tryd.prog 138 = some [(Go.Value.int Go.IntKind.i64 0), (Go.Value.slice none 0 0), (Go.Value.int Go.IntKind.u64 0), (Go.Value.int Go.IntKind.i64 0), (Go.Value.int Go.IntKind.u64 0), (Go.Value.int Go.IntKind.u64 0), (Go.Value.slice none 0 0), (Go.Value.bool false), (Go.Value.bool false), (Go.Value.slice none 0 0), (Go.Value.string { data := #[] }), (Go.Value.int Go.IntKind.i64 0), (Go.Value.string { data := #[] }), (Go.Value.int Go.IntKind.i64 0), (Go.Value.int Go.IntKind.i64 0), (Go.Value.int Go.IntKind.i64 0)] := by kernel_rfl
theorem u_140 : Go.Proofs.Tryd.prog.underlying 140 = some (Go.TypeDesc.pointer 84) := by kernel_rfl
theorem us_140 : (Go.Proofs.Tryd.prog.underlying 140).isSome = true := by kernel_rfl
theorem sc_140 : scal Go.Proofs.Tryd.prog 140 = true := by kernel_rfl
theorem zc_140 : zeroCs Go.Proofs.Tryd.prog 140 = some [(Go.Value.pointer none)] := by kernel_rfl
theorem u_142 : Go.Proofs.Tryd.prog.underlying 142 = some (Go.TypeDesc.pointer 21) := by kernel_rfl
theorem us_142 : (Go.Proofs.Tryd.prog.underlying 142).isSome = true := by kernel_rfl
theorem sc_142 : scal Go.Proofs.Tryd.prog 142 = true := by kernel_rfl
theorem zc_142 : zeroCs Go.Proofs.Tryd.prog 142 = some [(Go.Value.pointer none)] := by kernel_rfl
theorem u_144 : Go.Proofs.Tryd.prog.underlying 144 = some Go.TypeDesc.unsafePointer := by kernel_rfl
theorem us_144 : (Go.Proofs.Tryd.prog.underlying 144).isSome = true := by kernel_rfl
theorem sc_144 : scal Go.Proofs.Tryd.prog 144 = true := by kernel_rfl
theorem zc_144 : zeroCs Go.Proofs.Tryd.prog 144 = some [(Go.Value.pointer none)] := by kernel_rfl
theorem u_147 : Go.Proofs.Tryd.prog.underlying 147 = some (Go.TypeDesc.slice 149) := by kernel_rfl
theorem us_147 : (Go.Proofs.Tryd.prog.underlying 147).isSome = true := by kernel_rfl
theorem sc_147 : scal Go.Proofs.Tryd.prog 147 = true := by kernel_rfl
theorem zc_147 : zeroCs Go.Proofs.Tryd.prog 147 = some [(Go.Value.slice none 0 0)] := by kernel_rfl
theorem sl_147 : slElem Go.Proofs.Tryd.prog 147 = some (149, 2) := by kernel_rfl
theorem ap_147 : apT Go.Proofs.Tryd.prog 147 = some (149, 2, 16, [(Go.Value.int Go.IntKind.i64 0), (Go.Value.int Go.IntKind.i64 0)]) := by kernel_rfl
theorem ni_147 : notInt Go.Proofs.Tryd.prog 147 = true := by kernel_rfl
theorem u_149 : Go.Proofs.Tryd.prog.underlying 149 = some (Go.TypeDesc.struct #[{ name := "start", type := 3, offset := 0, embedded := false, tag := "", pkgPath := "strings", byteOffset := 0 }, { name := "end", type := 3, offset := 1, embedded := false, tag := "", pkgPath := "strings", byteOffset := 8 }]) := by kernel_rfl
theorem us_149 : (Go.Proofs.Tryd.prog.underlying 149).isSome = true := by kernel_rfl
theorem ag_149 : aggSz Go.Proofs.Tryd.prog 149 = some 2 := by kernel_rfl
theorem st_149 : stPl Go.Proofs.Tryd.prog 149 = some [(0, 1), (1, 1)] := by kernel_rfl
theorem zc_149 : zeroCs Go.Proofs.Tryd.prog 149 = some [(Go.Value.int Go.IntKind.i64 0), (Go.Value.int Go.IntKind.i64 0)] := by kernel_rfl
theorem u_151 : Go.Proofs.Tryd.prog.underlying 151 = some (Go.TypeDesc.pointer 162) := by kernel_rfl
theorem us_151 : (Go.Proofs.Tryd.prog.underlying 151).isSome = true := by kernel_rfl
theorem sc_151 : scal Go.Proofs.Tryd.prog 151 = true := by kernel_rfl
theorem zc_151 : zeroCs Go.Proofs.Tryd.prog 151 = some [(Go.Value.pointer none)] := by kernel_rfl
theorem u_153 : Go.Proofs.Tryd.prog.underlying 153 = some (Go.TypeDesc.int Go.IntKind.u64) := by kernel_rfl
theorem us_153 : (Go.Proofs.Tryd.prog.underlying 153).isSome = true := by kernel_rfl
theorem sc_153 : scal Go.Proofs.Tryd.prog 153 = true := by kernel_rfl
theorem zc_153 : zeroCs Go.Proofs.Tryd.prog 153 = some [(Go.Value.int Go.IntKind.u64 0)] := by kernel_rfl
theorem u_157 : Go.Proofs.Tryd.prog.underlying 157 = some (Go.TypeDesc.pointer 82) := by kernel_rfl
theorem us_157 : (Go.Proofs.Tryd.prog.underlying 157).isSome = true := by kernel_rfl
theorem sc_157 : scal Go.Proofs.Tryd.prog 157 = true := by kernel_rfl
theorem zc_157 : zeroCs Go.Proofs.Tryd.prog 157 = some [(Go.Value.pointer none)] := by kernel_rfl
theorem u_159 : Go.Proofs.Tryd.prog.underlying 159 = some (Go.TypeDesc.slice 165) := by kernel_rfl
theorem us_159 : (Go.Proofs.Tryd.prog.underlying 159).isSome = true := by kernel_rfl
theorem sc_159 : scal Go.Proofs.Tryd.prog 159 = true := by kernel_rfl
theorem zc_159 : zeroCs Go.Proofs.Tryd.prog 159 = some [(Go.Value.slice none 0 0)] := by kernel_rfl
theorem sl_159 : slElem Go.Proofs.Tryd.prog 159 = some (165, 3) := by kernel_rfl
theorem ap_159 : apT Go.Proofs.Tryd.prog 159 = some (165, 3, 6, [(Go.Value.int Go.IntKind.u16 0), (Go.Value.int Go.IntKind.u16 0), (Go.Value.int Go.IntKind.u16 0)]) := by kernel_rfl
theorem ni_159 : notInt Go.Proofs.Tryd.prog 159 = true := by kernel_rfl
theorem u_160 : Go.Proofs.Tryd.prog.underlying 160 = some (Go.TypeDesc.slice 168) := by kernel_rfl
theorem us_160 : (Go.Proofs.Tryd.prog.underlying 160).isSome = true := by kernel_rfl
theorem sc_160 : scal Go.Proofs.Tryd.prog 160 = true := by kernel_rfl
theorem zc_160 : zeroCs Go.Proofs.Tryd.prog 160 = some [(Go.Value.slice none 0 0)] := by kernel_rfl
theorem sl_160 : slElem Go.Proofs.Tryd.prog 160 = some (168, 3) := by kernel_rfl
theorem ap_160 : apT Go.Proofs.Tryd.prog 160 = some (168, 3, 12, [(Go.Value.int Go.IntKind.u32 0), (Go.Value.int Go.IntKind.u32 0), (Go.Value.int Go.IntKind.u32 0)]) := by kernel_rfl
theorem ni_160 : notInt Go.Proofs.Tryd.prog 160 = true := by kernel_rfl
theorem u_162 : Go.Proofs.Tryd.prog.underlying 162 = some (Go.TypeDesc.struct #[{ name := "R16", type := 159, offset := 0, embedded := false, tag := "", pkgPath := "", byteOffset := 0 }, { name := "R32", type := 160, offset := 1, embedded := false, tag := "", pkgPath := "", byteOffset := 24 }, { name := "LatinOffset", type := 3, offset := 2, embedded := false, tag := "", pkgPath := "", byteOffset := 48 }]) := by kernel_rfl
theorem us_162 : (Go.Proofs.Tryd.prog.underlying 162).isSome = true := by kernel_rfl
theorem ag_162 : aggSz Go.Proofs.Tryd.prog 162 = some 3 := by kernel_rfl
theorem st_162 : stPl Go.Proofs.Tryd.prog 162 = some [(0, 1), (1, 1), (2, 1)] := by kernel_rfl
theorem zc_162 : zeroCs Go.Proofs.Tryd.prog 162 = some [(Go.Value.slice none 0 0), (Go.Value.slice none 0 0), (Go.Value.int Go.IntKind.i64 0)] := by kernel_rfl
theorem u_163 : Go.Proofs.Tryd.prog.underlying 163 = some (Go.TypeDesc.int Go.IntKind.u16) := by kernel_rfl
theorem us_163 : (Go.Proofs.Tryd.prog.underlying 163).isSome = true := by kernel_rfl
theorem sc_163 : scal Go.Proofs.Tryd.prog 163 = true := by kernel_rfl
theorem zc_163 : zeroCs Go.Proofs.Tryd.prog 163 = some [(Go.Value.int Go.IntKind.u16 0)] := by kernel_rfl
theorem u_165 : Go.Proofs.Tryd.prog.underlying 165 = some (Go.TypeDesc.struct #[{ name := "Lo", type := 163, offset := 0, embedded := false, tag := "", pkgPath := "", byteOffset := 0 }, { name := "Hi", type := 163, offset := 1, embedded := false, tag := "", pkgPath := "", byteOffset := 2 }, { name := "Stride", type := 163, offset := 2, embedded := false, tag := "", pkgPath := "", byteOffset := 4 }]) := by kernel_rfl
theorem us_165 : (Go.Proofs.Tryd.prog.underlying 165).isSome = true := by kernel_rfl
theorem ag_165 : aggSz Go.Proofs.Tryd.prog 165 = some 3 := by kernel_rfl
theorem st_165 : stPl Go.Proofs.Tryd.prog 165 = some [(0, 1), (1, 1), (2, 1)] := by kernel_rfl
theorem zc_165 : zeroCs Go.Proofs.Tryd.prog 165 = some [(Go.Value.int Go.IntKind.u16 0), (Go.Value.int Go.IntKind.u16 0), (Go.Value.int Go.IntKind.u16 0)] := by kernel_rfl
theorem u_168 : Go.Proofs.Tryd.prog.underlying 168 = some (Go.TypeDesc.struct #[{ name := "Lo", type := 82, offset := 0, embedded := false, tag := "", pkgPath := "", byteOffset := 0 }, { name := "Hi", type := 82, offset := 1, embedded := false, tag := "", pkgPath := "", byteOffset := 4 }, { name := "Stride", type := 82, offset := 2, embedded := false, tag := "", pkgPath := "", byteOffset := 8 }]) := by kernel_rfl
theorem us_168 : (Go.Proofs.Tryd.prog.underlying 168).isSome = true := by kernel_rfl
theorem ag_168 : aggSz Go.Proofs.Tryd.prog 168 = some 3 := by kernel_rfl
theorem st_168 : stPl Go.Proofs.Tryd.prog 168 = some [(0, 1), (1, 1), (2, 1)] := by kernel_rfl
theorem zc_168 : zeroCs Go.Proofs.Tryd.prog 168 = some [(Go.Value.int Go.IntKind.u32 0), (Go.Value.int Go.IntKind.u32 0), (Go.Value.int Go.IntKind.u32 0)] := by kernel_rfl
theorem fld_34_0 : fldOff Go.Proofs.Tryd.prog 34 0 = some 0 := by kernel_rfl
theorem fld_34_9 : fldOff Go.Proofs.Tryd.prog 34 9 = some 9 := by kernel_rfl
theorem fld_38_0 : fldOff Go.Proofs.Tryd.prog 38 0 = some 0 := by kernel_rfl
theorem fld_38_3 : fldOff Go.Proofs.Tryd.prog 38 3 = some 3 := by kernel_rfl
theorem fld_41_0 : fldOff Go.Proofs.Tryd.prog 41 0 = some 0 := by kernel_rfl
theorem fld_41_1 : fldOff Go.Proofs.Tryd.prog 41 1 = some 1 := by kernel_rfl
theorem fld_41_5 : fldOff Go.Proofs.Tryd.prog 41 5 = some 5 := by kernel_rfl
theorem fld_41_6 : fldOff Go.Proofs.Tryd.prog 41 6 = some 6 := by kernel_rfl
theorem fld_43_0 : fldOff Go.Proofs.Tryd.prog 43 0 = some 0 := by kernel_rfl
theorem fld_43_1 : fldOff Go.Proofs.Tryd.prog 43 1 = some 11 := by kernel_rfl
theorem fld_43_2 : fldOff Go.Proofs.Tryd.prog 43 2 = some 16 := by kernel_rfl
theorem fld_43_3 : fldOff Go.Proofs.Tryd.prog 43 3 = some 17 := by kernel_rfl
theorem fld_60_0 : fldOff Go.Proofs.Tryd.prog 60 0 = some 0 := by kernel_rfl
theorem fld_60_1 : fldOff Go.Proofs.Tryd.prog 60 1 = some 1 := by kernel_rfl
theorem fld_60_2 : fldOff Go.Proofs.Tryd.prog 60 2 = some 2 := by kernel_rfl
theorem fld_60_3 : fldOff Go.Proofs.Tryd.prog 60 3 = some 3 := by kernel_rfl
theorem fld_60_4 : fldOff Go.Proofs.Tryd.prog 60 4 = some 4 := by kernel_rfl
theorem fld_60_5 : fldOff Go.Proofs.Tryd.prog 60 5 = some 5 := by kernel_rfl
theorem fld_60_6 : fldOff Go.Proofs.Tryd.prog 60 6 = some 6 := by kernel_rfl
theorem fld_60_7 : fldOff Go.Proofs.Tryd.prog 60 7 = some 7 := by kernel_rfl
theorem fld_60_8 : fldOff Go.Proofs.Tryd.prog 60 8 = some 8 := by kernel_rfl
theorem fld_60_9 : fldOff Go.Proofs.Tryd.prog 60 9 = some 9 := by kernel_rfl
theorem fld_60_10 : fldOff Go.Proofs.Tryd.prog 60 10 = some 10 := by kernel_rfl
theorem fld_60_11 : fldOff Go.Proofs.Tryd.prog 60 11 = some 11 := by kernel_rfl
theorem fld_60_12 : fldOff Go.Proofs.Tryd.prog 60 12 = some 12 := by kernel_rfl
theorem fld_60_13 : fldOff Go.Proofs.Tryd.prog 60 13 = some 13 := by kernel_rfl
theorem fld_60_14 : fldOff Go.Proofs.Tryd.prog 60 14 = some 14 := by kernel_rfl
theorem fld_60_15 : fldOff Go.Proofs.Tryd.prog 60 15 = some 15 := by kernel_rfl
theorem fld_60_16 : fldOff Go.Proofs.Tryd.prog 60 16 = some 16 := by kernel_rfl
theorem fld_60_17 : fldOff Go.Proofs.Tryd.prog 60 17 = some 17 := by kernel_rfl
theorem fld_60_18 : fldOff Go.Proofs.Tryd.prog 60 18 = some 18 := by kernel_rfl
theorem fld_60_19 : fldOff Go.Proofs.Tryd.prog 60 19 = some 19 := by kernel_rfl
theorem fld_60_20 : fldOff Go.Proofs.Tryd.prog 60 20 = some 20 := by kernel_rfl
theorem fld_60_21 : fldOff Go.Proofs.Tryd.prog 60 21 = some 21 := by kernel_rfl
theorem fld_60_22 : fldOff Go.Proofs.Tryd.prog 60 22 = some 22 := by kernel_rfl
theorem fld_60_23 : fldOff Go.Proofs.Tryd.prog 60 23 = some 23 := by kernel_rfl
theorem fld_60_24 : fldOff Go.Proofs.Tryd.prog 60 24 = some 24 := by kernel_rfl
theorem fld_60_25 : fldOff Go.Proofs.Tryd.prog 60 25 = some 25 := by kernel_rfl
theorem fld_60_26 : fldOff Go.Proofs.Tryd.prog 60 26 = some 26 := by kernel_rfl
theorem fld_63_0 : fldOff Go.Proofs.Tryd.prog 63 0 = some 0 := by kernel_rfl
theorem fld_63_1 : fldOff Go.Proofs.Tryd.prog 63 1 = some 1 := by kernel_rfl
theorem fld_73_0 : fldOff Go.Proofs.Tryd.prog 73 0 = some 0 := by kernel_rfl
theorem fld_73_1 : fldOff Go.Proofs.Tryd.prog 73 1 = some 1 := by kernel_rfl
theorem fld_73_2 : fldOff Go.Proofs.Tryd.prog 73 2 = some 2 := by kernel_rfl
theorem fld_73_3 : fldOff Go.Proofs.Tryd.prog 73 3 = some 3 := by kernel_rfl
theorem fld_73_4 : fldOff Go.Proofs.Tryd.prog 73 4 = some 4 := by kernel_rfl
theorem fld_73_5 : fldOff Go.Proofs.Tryd.prog 73 5 = some 15 := by kernel_rfl
theorem fld_73_6 : fldOff Go.Proofs.Tryd.prog 73 6 = some 20 := by kernel_rfl
theorem fld_73_7 : fldOff Go.Proofs.Tryd.prog 73 7 = some 21 := by kernel_rfl
theorem fld_78_0 : fldOff Go.Proofs.Tryd.prog 78 0 = some 0 := by kernel_rfl
theorem fld_78_1 : fldOff Go.Proofs.Tryd.prog 78 1 = some 1 := by kernel_rfl
theorem fld_84_0 : fldOff Go.Proofs.Tryd.prog 84 0 = some 0 := by kernel_rfl
theorem fld_84_1 : fldOff Go.Proofs.Tryd.prog 84 1 = some 1 := by kernel_rfl
theorem fld_86_1 : fldOff Go.Proofs.Tryd.prog 86 1 = some 0 := by kernel_rfl
theorem fld_89_0 : fldOff Go.Proofs.Tryd.prog 89 0 = some 0 := by kernel_rfl
theorem fld_89_1 : fldOff Go.Proofs.Tryd.prog 89 1 = some 2 := by kernel_rfl
theorem fld_91_0 : fldOff Go.Proofs.Tryd.prog 91 0 = some 0 := by kernel_rfl
theorem fld_130_0 : fldOff Go.Proofs.Tryd.prog 130 0 = some 0 := by kernel_rfl
theorem fld_130_1 : fldOff Go.Proofs.Tryd.prog 130 1 = some 1 := by kernel_rfl
theorem fld_130_2 : fldOff Go.Proofs.Tryd.prog 130 2 = some 2 := by kernel_rfl
theorem fld_130_3 : fldOff Go.Proofs.Tryd.prog 130 3 = some 3 := by kernel_rfl
theorem fld_130_4 : fldOff Go.Proofs.Tryd.prog 130 4 = some 4 := by kernel_rfl
theorem fld_130_5 : fldOff Go.Proofs.Tryd.prog 130 5 = some 5 := by kernel_rfl
theorem fld_130_6 : fldOff Go.Proofs.Tryd.prog 130 6 = some 6 := by kernel_rfl
theorem fld_130_7 : fldOff Go.Proofs.Tryd.prog 130 7 = some 7 := by kernel_rfl
theorem fld_130_8 : fldOff Go.Proofs.Tryd.prog 130 8 = some 8 := by kernel_rfl
theorem fld_138_2 : fldOff Go.Proofs.Tryd.prog 138 2 = some 14 := by kernel_rfl
theorem fld_149_0 : fldOff Go.Proofs.Tryd.prog 149 0 = some 0 := by kernel_rfl
theorem fld_149_1 : fldOff Go.Proofs.Tryd.prog 149 1 = some 1 := by kernel_rfl
theorem fld_162_0 : fldOff Go.Proofs.Tryd.prog 162 0 = some 0 := by kernel_rfl
theorem fld_162_1 : fldOff Go.Proofs.Tryd.prog 162 1 = some 1 := by kernel_rfl
theorem fld_162_2 : fldOff Go.Proofs.Tryd.prog 162 2 = some 2 := by kernel_rfl
theorem fld_165_0 : fldOff Go.Proofs.Tryd.prog 165 0 = some 0 := by kernel_rfl
theorem fld_165_1 : fldOff Go.Proofs.Tryd.prog 165 1 = some 1 := by kernel_rfl
theorem fld_165_2 : fldOff Go.Proofs.Tryd.prog 165 2 = some 2 := by kernel_rfl
theorem fld_168_0 : fldOff Go.Proofs.Tryd.prog 168 0 = some 0 := by kernel_rfl
theorem fld_168_1 : fldOff Go.Proofs.Tryd.prog 168 1 = some 1 := by kernel_rfl
theorem fld_168_2 : fldOff Go.Proofs.Tryd.prog 168 2 = some 2 := by kernel_rfl
theorem fn_2 : isFn Go.Proofs.Tryd.prog 2 = true := by kernel_rfl
theorem fn_3 : isFn Go.Proofs.Tryd.prog 3 = true := by kernel_rfl
theorem fn_4 : isFn Go.Proofs.Tryd.prog 4 = true := by kernel_rfl
theorem fn_5 : isFn Go.Proofs.Tryd.prog 5 = true := by kernel_rfl
theorem fn_6 : isFn Go.Proofs.Tryd.prog 6 = true := by kernel_rfl
theorem fn_7 : isFn Go.Proofs.Tryd.prog 7 = true := by kernel_rfl
theorem fn_8 : isFn Go.Proofs.Tryd.prog 8 = true := by kernel_rfl
theorem fn_9 : isFn Go.Proofs.Tryd.prog 9 = true := by kernel_rfl
theorem fn_10 : isFn Go.Proofs.Tryd.prog 10 = true := by kernel_rfl
theorem fn_11 : isFn Go.Proofs.Tryd.prog 11 = true := by kernel_rfl
theorem fn_12 : isFn Go.Proofs.Tryd.prog 12 = true := by kernel_rfl
theorem fn_13 : isFn Go.Proofs.Tryd.prog 13 = true := by kernel_rfl
theorem fn_14 : isFn Go.Proofs.Tryd.prog 14 = true := by kernel_rfl
theorem fn_15 : isFn Go.Proofs.Tryd.prog 15 = true := by kernel_rfl
theorem fn_16 : isFn Go.Proofs.Tryd.prog 16 = true := by kernel_rfl
theorem fn_17 : isFn Go.Proofs.Tryd.prog 17 = true := by kernel_rfl
theorem fn_18 : isFn Go.Proofs.Tryd.prog 18 = true := by kernel_rfl
theorem fn_19 : isFn Go.Proofs.Tryd.prog 19 = true := by kernel_rfl
theorem fn_20 : isFn Go.Proofs.Tryd.prog 20 = true := by kernel_rfl
theorem fn_21 : isFn Go.Proofs.Tryd.prog 21 = true := by kernel_rfl
theorem fn_22 : isFn Go.Proofs.Tryd.prog 22 = true := by kernel_rfl
theorem fn_23 : isFn Go.Proofs.Tryd.prog 23 = true := by kernel_rfl
theorem fn_24 : isFn Go.Proofs.Tryd.prog 24 = true := by kernel_rfl
theorem fn_25 : isFn Go.Proofs.Tryd.prog 25 = true := by kernel_rfl
theorem fn_26 : isFn Go.Proofs.Tryd.prog 26 = true := by kernel_rfl
theorem fn_27 : isFn Go.Proofs.Tryd.prog 27 = true := by kernel_rfl
theorem fn_28 : isFn Go.Proofs.Tryd.prog 28 = true := by kernel_rfl
theorem fn_29 : isFn Go.Proofs.Tryd.prog 29 = true := by kernel_rfl
theorem fn_30 : isFn Go.Proofs.Tryd.prog 30 = true := by kernel_rfl
theorem fn_31 : isFn Go.Proofs.Tryd.prog 31 = true := by kernel_rfl
theorem fn_32 : isFn Go.Proofs.Tryd.prog 32 = true := by kernel_rfl
theorem fn_33 : isFn Go.Proofs.Tryd.prog 33 = true := by kernel_rfl
theorem fn_34 : isFn Go.Proofs.Tryd.prog 34 = true := by kernel_rfl
theorem fn_35 : isFn Go.Proofs.Tryd.prog 35 = true := by kernel_rfl
theorem fn_36 : isFn Go.Proofs.Tryd.prog 36 = true := by kernel_rfl
theorem fn_37 : isFn Go.Proofs.Tryd.prog 37 = true := by kernel_rfl
theorem fn_38 : isFn Go.Proofs.Tryd.prog 38 = true := by kernel_rfl
theorem fn_39 : isFn Go.Proofs.Tryd.prog 39 = true := by kernel_rfl
theorem fn_40 : isFn Go.Proofs.Tryd.prog 40 = true := by kernel_rfl
theorem fn_41 : isFn Go.Proofs.Tryd.prog 41 = true := by kernel_rfl
theorem fn_42 : isFn Go.Proofs.Tryd.prog 42 = true := by kernel_rfl
theorem fn_43 : isFn Go.Proofs.Tryd.prog 43 = true := by kernel_rfl
theorem fn_44 : isFn Go.Proofs.Tryd.prog 44 = true := by kernel_rfl
theorem fn_45 : isFn Go.Proofs.Tryd.prog 45 = true := by kernel_rfl
theorem fn_46 : isFn Go.Proofs.Tryd.prog 46 = true := by kernel_rfl
theorem fn_47 : isFn Go.Proofs.Tryd.prog 47 = true := by kernel_rfl
theorem fn_48 : isFn Go.Proofs.Tryd.prog 48 = true := by kernel_rfl
theorem fn_49 : isFn Go.Proofs.Tryd.prog 49 = true := by kernel_rfl
theorem fn_50 : isFn Go.Proofs.Tryd.prog 50 = true := by kernel_rfl
theorem fn_51 : isFn Go.Proofs.Tryd.prog 51 = true := by kernel_rfl
theorem fn_52 : isFn Go.Proofs.Tryd.prog 52 = true := by kernel_rfl
theorem fn_53 : isFn Go.Proofs.Tryd.prog 53 = true := by kernel_rfl
theorem fn_54 : isFn Go.Proofs.Tryd.prog 54 = true := by kernel_rfl
theorem fn_55 : isFn Go.Proofs.Tryd.prog 55 = true := by kernel_rfl
theorem fn_56 : isFn Go.Proofs.Tryd.prog 56 = true := by kernel_rfl
theorem fn_57 : isFn Go.Proofs.Tryd.prog 57 = true := by kernel_rfl
theorem fn_58 : isFn Go.Proofs.Tryd.prog 58 = true := by kernel_rfl
theorem fn_59 : isFn Go.Proofs.Tryd.prog 59 = true := by kernel_rfl
theorem fn_60 : isFn Go.Proofs.Tryd.prog 60 = true := by kernel_rfl
theorem fn_61 : isFn Go.Proofs.Tryd.prog 61 = true := by kernel_rfl
theorem fn_62 : isFn Go.Proofs.Tryd.prog 62 = true := by kernel_rfl
theorem fn_63 : isFn Go.Proofs.Tryd.prog 63 = true := by kernel_rfl
theorem fn_64 : isFn Go.Proofs.Tryd.prog 64 = true := by kernel_rfl
theorem fn_65 : isFn Go.Proofs.Tryd.prog 65 = true := by kernel_rfl
theorem fn_66 : isFn Go.Proofs.Tryd.prog 66 = true := by kernel_rfl
theorem fn_67 : isFn Go.Proofs.Tryd.prog 67 = true := by kernel_rfl
theorem fn_68 : isFn Go.Proofs.Tryd.prog 68 = true := by kernel_rfl
theorem fn_69 : isFn Go.Proofs.Tryd.prog 69 = true := by kernel_rfl
theorem fn_70 : isFn Go.Proofs.Tryd.prog 70 = true := by kernel_rfl
theorem fn_71 : isFn Go.Proofs.Tryd.prog 71 = true := by kernel_rfl
theorem fn_72 : isFn Go.Proofs.Tryd.prog 72 = true := by kernel_rfl
theorem fn_73 : isFn Go.Proofs.Tryd.prog 73 = true := by kernel_rfl
theorem fn_74 : isFn Go.Proofs.Tryd.prog 74 = true := by kernel_rfl
theorem fn_75 : isFn Go.Proofs.Tryd.prog 75 = true := by kernel_rfl
theorem fn_76 : isFn Go.Proofs.Tryd.prog 76 = true := by kernel_rfl
theorem fn_77 : isFn Go.Proofs.Tryd.prog 77 = true := by kernel_rfl
theorem fn_78 : isFn Go.Proofs.Tryd.prog 78 = true := by kernel_rfl
theorem fn_79 : isFn Go.Proofs.Tryd.prog 79 = true := by kernel_rfl
theorem fn_80 : isFn Go.Proofs.Tryd.prog 80 = true := by kernel_rfl
theorem fn_81 : isFn Go.Proofs.Tryd.prog 81 = true := by kernel_rfl
theorem fn_82 : isFn Go.Proofs.Tryd.prog 82 = true := by kernel_rfl
theorem fn_83 : isFn Go.Proofs.Tryd.prog 83 = true := by kernel_rfl
theorem fn_84 : isFn Go.Proofs.Tryd.prog 84 = true := by kernel_rfl
theorem fn_89 : isFn Go.Proofs.Tryd.prog 89 = true := by kernel_rfl
theorem fn_92 : isFn Go.Proofs.Tryd.prog 92 = true := by kernel_rfl
theorem fn_93 : isFn Go.Proofs.Tryd.prog 93 = true := by kernel_rfl
theorem fn_94 : isFn Go.Proofs.Tryd.prog 94 = true := by kernel_rfl
theorem fn_95 : isFn Go.Proofs.Tryd.prog 95 = true := by kernel_rfl
theorem fn_96 : isFn Go.Proofs.Tryd.prog 96 = true := by kernel_rfl
theorem fn_104 : isFn Go.Proofs.Tryd.prog 104 = true := by kernel_rfl
theorem fn_105 : isFn Go.Proofs.Tryd.prog 105 = true := by kernel_rfl
theorem fn_106 : isFn Go.Proofs.Tryd.prog 106 = true := by kernel_rfl
theorem fn_107 : isFn Go.Proofs.Tryd.prog 107 = true := by kernel_rfl
theorem fn_109 : isFn Go.Proofs.Tryd.prog 109 = true := by kernel_rfl
theorem fn_110 : isFn Go.Proofs.Tryd.prog 110 = true := by kernel_rfl
theorem fn_112 : isFn Go.Proofs.Tryd.prog 112 = true := by kernel_rfl
theorem fn_136 : isFn Go.Proofs.Tryd.prog 136 = true := by kernel_rfl

end Go.Proofs.YtdmepoiijgejhaaDoor.T
