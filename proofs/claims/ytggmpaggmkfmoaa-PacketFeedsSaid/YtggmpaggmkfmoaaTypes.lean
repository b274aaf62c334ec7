/- The closed facts on types that the rules of the engine ask for. Written by program. -/
import Derived.Test.YtggmpaggmkfmoaaEng7
import Derived.Test.YtggmpaggmkfmoaaProg
import Derived.KernelRfl
namespace Go.Proofs.Ytggmpaggmkfmoaa.T
open Go Go.Eng

theorem mix : Go.Proofs.Try.prog.follows .mixedOrders = true := by kernel_rfl
theorem u_3 : Go.Proofs.Try.prog.underlying 3 = some (Go.TypeDesc.int Go.IntKind.i64) := by kernel_rfl
theorem us_3 : (Go.Proofs.Try.prog.underlying 3).isSome = true := by kernel_rfl
theorem sc_3 : scal Go.Proofs.Try.prog 3 = true := by kernel_rfl
theorem zc_3 : zeroCs Go.Proofs.Try.prog 3 = some [(Go.Value.int Go.IntKind.i64 0)] := by kernel_rfl
theorem u_4 : Go.Proofs.Try.prog.underlying 4 = some Go.TypeDesc.bool := by kernel_rfl
theorem us_4 : (Go.Proofs.Try.prog.underlying 4).isSome = true := by kernel_rfl
theorem sc_4 : scal Go.Proofs.Try.prog 4 = true := by kernel_rfl
theorem zc_4 : zeroCs Go.Proofs.Try.prog 4 = some [(Go.Value.bool false)] := by kernel_rfl
theorem u_5 : Go.Proofs.Try.prog.underlying 5 = some (Go.TypeDesc.int Go.IntKind.u8) := by kernel_rfl
theorem us_5 : (Go.Proofs.Try.prog.underlying 5).isSome = true := by kernel_rfl
theorem sc_5 : scal Go.Proofs.Try.prog 5 = true := by kernel_rfl
theorem zc_5 : zeroCs Go.Proofs.Try.prog 5 = some [(Go.Value.int Go.IntKind.u8 0)] := by kernel_rfl
theorem u_9 : Go.Proofs.Try.prog.underlying 9 = some Go.TypeDesc.string := by kernel_rfl
theorem us_9 : (Go.Proofs.Try.prog.underlying 9).isSome = true := by kernel_rfl
theorem sc_9 : scal Go.Proofs.Try.prog 9 = true := by kernel_rfl
theorem zc_9 : zeroCs Go.Proofs.Try.prog 9 = some [(Go.Value.string { data := #[] })] := by kernel_rfl
theorem ni_9 : notInt Go.Proofs.Try.prog 9 = true := by kernel_rfl
theorem u_22 : Go.Proofs.Try.prog.underlying 22 = some (Go.TypeDesc.slice 39) := by kernel_rfl
theorem us_22 : (Go.Proofs.Try.prog.underlying 22).isSome = true := by kernel_rfl
theorem sc_22 : scal Go.Proofs.Try.prog 22 = true := by kernel_rfl
theorem zc_22 : zeroCs Go.Proofs.Try.prog 22 = some [(Go.Value.slice none 0 0)] := by kernel_rfl
theorem sl_22 : slElem Go.Proofs.Try.prog 22 = some (39, 9) := by kernel_rfl
theorem ap_22 : apT Go.Proofs.Try.prog 22 = some (39, 9, 112, [(Go.Value.bool false), (Go.Value.int Go.IntKind.i64 0), (Go.Value.int Go.IntKind.i64 0), (Go.Value.int Go.IntKind.u64 0), (Go.Value.int Go.IntKind.u64 0), (Go.Value.slice none 0 0), (Go.Value.string { data := #[] }), (Go.Value.slice none 0 0), (Go.Value.bool false)]) := by kernel_rfl
theorem ni_22 : notInt Go.Proofs.Try.prog 22 = true := by kernel_rfl
theorem u_23 : Go.Proofs.Try.prog.underlying 23 = some (Go.TypeDesc.pointer 32) := by kernel_rfl
theorem us_23 : (Go.Proofs.Try.prog.underlying 23).isSome = true := by kernel_rfl
theorem sc_23 : scal Go.Proofs.Try.prog 23 = true := by kernel_rfl
theorem zc_23 : zeroCs Go.Proofs.Try.prog 23 = some [(Go.Value.pointer none)] := by kernel_rfl
theorem u_24 : Go.Proofs.Try.prog.underlying 24 = some (Go.TypeDesc.slice 37) := by kernel_rfl
theorem us_24 : (Go.Proofs.Try.prog.underlying 24).isSome = true := by kernel_rfl
theorem sc_24 : scal Go.Proofs.Try.prog 24 = true := by kernel_rfl
theorem zc_24 : zeroCs Go.Proofs.Try.prog 24 = some [(Go.Value.slice none 0 0)] := by kernel_rfl
theorem sl_24 : slElem Go.Proofs.Try.prog 24 = some (37, 1) := by kernel_rfl
theorem ap_24 : apT Go.Proofs.Try.prog 24 = some (37, 1, 24, [(Go.Value.slice none 0 0)]) := by kernel_rfl
theorem ni_24 : notInt Go.Proofs.Try.prog 24 = true := by kernel_rfl
theorem u_25 : Go.Proofs.Try.prog.underlying 25 = some (Go.TypeDesc.slice 73) := by kernel_rfl
theorem us_25 : (Go.Proofs.Try.prog.underlying 25).isSome = true := by kernel_rfl
theorem sc_25 : scal Go.Proofs.Try.prog 25 = true := by kernel_rfl
theorem zc_25 : zeroCs Go.Proofs.Try.prog 25 = some [(Go.Value.slice none 0 0)] := by kernel_rfl
theorem sl_25 : slElem Go.Proofs.Try.prog 25 = some (73, 1) := by kernel_rfl
theorem ap_25 : apT Go.Proofs.Try.prog 25 = some (73, 1, 24, [(Go.Value.slice none 0 0)]) := by kernel_rfl
theorem ni_25 : notInt Go.Proofs.Try.prog 25 = true := by kernel_rfl
theorem u_26 : Go.Proofs.Try.prog.underlying 26 = some (Go.TypeDesc.slice 89) := by kernel_rfl
theorem us_26 : (Go.Proofs.Try.prog.underlying 26).isSome = true := by kernel_rfl
theorem sc_26 : scal Go.Proofs.Try.prog 26 = true := by kernel_rfl
theorem zc_26 : zeroCs Go.Proofs.Try.prog 26 = some [(Go.Value.slice none 0 0)] := by kernel_rfl
theorem sl_26 : slElem Go.Proofs.Try.prog 26 = some (89, 1) := by kernel_rfl
theorem ap_26 : apT Go.Proofs.Try.prog 26 = some (89, 1, 24, [(Go.Value.slice none 0 0)]) := by kernel_rfl
theorem ni_26 : notInt Go.Proofs.Try.prog 26 = true := by kernel_rfl
theorem u_27 : Go.Proofs.Try.prog.underlying 27 = some (Go.TypeDesc.slice 102) := by kernel_rfl
theorem us_27 : (Go.Proofs.Try.prog.underlying 27).isSome = true := by kernel_rfl
theorem sc_27 : scal Go.Proofs.Try.prog 27 = true := by kernel_rfl
theorem zc_27 : zeroCs Go.Proofs.Try.prog 27 = some [(Go.Value.slice none 0 0)] := by kernel_rfl
theorem sl_27 : slElem Go.Proofs.Try.prog 27 = some (102, 1) := by kernel_rfl
theorem ap_27 : apT Go.Proofs.Try.prog 27 = some (102, 1, 24, [(Go.Value.slice none 0 0)]) := by kernel_rfl
theorem ni_27 : notInt Go.Proofs.Try.prog 27 = true := by kernel_rfl
theorem u_28 : Go.Proofs.Try.prog.underlying 28 = some (Go.TypeDesc.slice 104) := by kernel_rfl
theorem us_28 : (Go.Proofs.Try.prog.underlying 28).isSome = true := by kernel_rfl
theorem sc_28 : scal Go.Proofs.Try.prog 28 = true := by kernel_rfl
theorem zc_28 : zeroCs Go.Proofs.Try.prog 28 = some [(Go.Value.slice none 0 0)] := by kernel_rfl
theorem sl_28 : slElem Go.Proofs.Try.prog 28 = some (104, 1) := by kernel_rfl
theorem ap_28 : apT Go.Proofs.Try.prog 28 = some (104, 1, 24, [(Go.Value.slice none 0 0)]) := by kernel_rfl
theorem ni_28 : notInt Go.Proofs.Try.prog 28 = true := by kernel_rfl
theorem u_29 : Go.Proofs.Try.prog.underlying 29 = some (Go.TypeDesc.slice 114) := by kernel_rfl
theorem us_29 : (Go.Proofs.Try.prog.underlying 29).isSome = true := by kernel_rfl
theorem sc_29 : scal Go.Proofs.Try.prog 29 = true := by kernel_rfl
theorem zc_29 : zeroCs Go.Proofs.Try.prog 29 = some [(Go.Value.slice none 0 0)] := by kernel_rfl
theorem sl_29 : slElem Go.Proofs.Try.prog 29 = some (114, 1) := by kernel_rfl
theorem ap_29 : apT Go.Proofs.Try.prog 29 = some (114, 1, 24, [(Go.Value.slice none 0 0)]) := by kernel_rfl
theorem ni_29 : notInt Go.Proofs.Try.prog 29 = true := by kernel_rfl
theorem u_30 : Go.Proofs.Try.prog.underlying 30 = some (Go.TypeDesc.slice 119) := by kernel_rfl
theorem us_30 : (Go.Proofs.Try.prog.underlying 30).isSome = true := by kernel_rfl
theorem sc_30 : scal Go.Proofs.Try.prog 30 = true := by kernel_rfl
theorem zc_30 : zeroCs Go.Proofs.Try.prog 30 = some [(Go.Value.slice none 0 0)] := by kernel_rfl
theorem sl_30 : slElem Go.Proofs.Try.prog 30 = some (119, 1) := by kernel_rfl
theorem ap_30 : apT Go.Proofs.Try.prog 30 = some (119, 1, 24, [(Go.Value.slice none 0 0)]) := by kernel_rfl
theorem ni_30 : notInt Go.Proofs.Try.prog 30 = true := by kernel_rfl
theorem u_32 : Go.Proofs.Try.prog.underlying 32 = some (Go.TypeDesc.struct #[{ name := "bytes", type := 24, offset := 0, embedded := false, tag := "", pkgPath := "granary/granarykeep", byteOffset := 0 }, { name := "bytesWant", type := 24, offset := 1, embedded := false, tag := "", pkgPath := "granary/granarykeep", byteOffset := 24 }, { name := "bytesOne", type := 24, offset := 2, embedded := false, tag := "", pkgPath := "granary/granarykeep", byteOffset := 48 }, { name := "bytesMany", type := 24, offset := 3, embedded := false, tag := "", pkgPath := "granary/granarykeep", byteOffset := 72 }, { name := "ints", type := 25, offset := 4, embedded := false, tag := "", pkgPath := "granary/granarykeep", byteOffset := 96 }, { name := "intsWant", type := 25, offset := 5, embedded := false, tag := "", pkgPath := "granary/granarykeep", byteOffset := 120 }, { name := "intsOne", type := 25, offset := 6, embedded := false, tag := "", pkgPath := "granary/granarykeep", byteOffset := 144 }, { name := "intsMany", type := 25, offset := 7, embedded := false, tag := "", pkgPath := "granary/granarykeep", byteOffset := 168 }, { name := "texts", type := 26, offset := 8, embedded := false, tag := "", pkgPath := "granary/granarykeep", byteOffset := 192 }, { name := "textsWant", type := 26, offset := 9, embedded := false, tag := "", pkgPath := "granary/granarykeep", byteOffset := 216 }, { name := "textsOne", type := 26, offset := 10, embedded := false, tag := "", pkgPath := "granary/granarykeep", byteOffset := 240 }, { name := "textsMany", type := 26, offset := 11, embedded := false, tag := "", pkgPath := "granary/granarykeep", byteOffset := 264 }, { name := "handles", type := 27, offset := 12, embedded := false, tag := "", pkgPath := "granary/granarykeep", byteOffset := 288 }, { name := "handlesWant", type := 27, offset := 13, embedded := false, tag := "", pkgPath := "granary/granarykeep", byteOffset := 312 }, { name := "handlesOne", type := 27, offset := 14, embedded := false, tag := "", pkgPath := "granary/granarykeep", byteOffset := 336 }, { name := "handlesMany", type := 27, offset := 15, embedded := false, tag := "", pkgPath := "granary/granarykeep", byteOffset := 360 }, { name := "entries", type := 28, offset := 16, embedded := false, tag := "", pkgPath := "granary/granarykeep", byteOffset := 384 }, { name := "entriesOne", type := 28, offset := 17, embedded := false, tag := "", pkgPath := "granary/granarykeep", byteOffset := 408 }, { name := "entriesMany", type := 28, offset := 18, embedded := false, tag := "", pkgPath := "granary/granarykeep", byteOffset := 432 }, { name := "answers", type := 29, offset := 19, embedded := false, tag := "", pkgPath := "granary/granarykeep", byteOffset := 456 }, { name := "answersOne", type := 29, offset := 20, embedded := false, tag := "", pkgPath := "granary/granarykeep", byteOffset := 480 }, { name := "answersMany", type := 29, offset := 21, embedded := false, tag := "", pkgPath := "granary/granarykeep", byteOffset := 504 }, { name := "steps", type := 30, offset := 22, embedded := false, tag := "", pkgPath := "granary/granarykeep", byteOffset := 528 }, { name := "stepsOne", type := 30, offset := 23, embedded := false, tag := "", pkgPath := "granary/granarykeep", byteOffset := 552 }, { name := "stepsMany", type := 30, offset := 24, embedded := false, tag := "", pkgPath := "granary/granarykeep", byteOffset := 576 }, { name := "entriesWant", type := 28, offset := 25, embedded := false, tag := "", pkgPath := "granary/granarykeep", byteOffset := 600 }, { name := "n", type := 3, offset := 26, embedded := false, tag := "", pkgPath := "granary/granarykeep", byteOffset := 624 }]) := by kernel_rfl
theorem us_32 : (Go.Proofs.Try.prog.underlying 32).isSome = true := by kernel_rfl
theorem ag_32 : aggSz Go.Proofs.Try.prog 32 = some 27 := by kernel_rfl
theorem st_32 : stPl Go.Proofs.Try.prog 32 = some [(0, 1), (1, 1), (2, 1), (3, 1), (4, 1), (5, 1), (6, 1), (7, 1), (8, 1), (9, 1), (10, 1), (11, 1), (12, 1), (13, 1), (14, 1), (15, 1), (16, 1), (17, 1), (18, 1), (19, 1), (20, 1), (21, 1), (22, 1), (23, 1), (24, 1), (25, 1), (26, 1)] := by kernel_rfl
theorem zc_32 : zeroCs Go.Proofs.Try.prog 32 = some [(Go.Value.slice none 0 0), (Go.Value.slice none 0 0), (Go.Value.slice none 0 0), (Go.Value.slice none 0 0), (Go.Value.slice none 0 0), (Go.Value.slice none 0 0), (Go.Value.slice none 0 0), (Go.Value.slice none 0 0), (Go.Value.slice none 0 0), (Go.Value.slice none 0 0), (Go.Value.slice none 0 0), (Go.Value.slice none 0 0), (Go.Value.slice none 0 0), (Go.Value.slice none 0 0), (Go.Value.slice none 0 0), (Go.Value.slice none 0 0), (Go.Value.slice none 0 0), (Go.Value.slice none 0 0), (Go.Value.slice none 0 0), (Go.Value.slice none 0 0), (Go.Value.slice none 0 0), (Go.Value.slice none 0 0), (Go.Value.slice none 0 0), (Go.Value.slice none 0 0), (Go.Value.slice none 0 0), (Go.Value.slice none 0 0), (Go.Value.int Go.IntKind.i64 0)] := by kernel_rfl
theorem u_33 : Go.Proofs.Try.prog.underlying 33 = some (Go.TypeDesc.pointer 35) := by kernel_rfl
theorem us_33 : (Go.Proofs.Try.prog.underlying 33).isSome = true := by kernel_rfl
theorem sc_33 : scal Go.Proofs.Try.prog 33 = true := by kernel_rfl
theorem zc_33 : zeroCs Go.Proofs.Try.prog 33 = some [(Go.Value.pointer none)] := by kernel_rfl
theorem u_35 : Go.Proofs.Try.prog.underlying 35 = some (Go.TypeDesc.struct #[{ name := "lists", type := 24, offset := 0, embedded := false, tag := "", pkgPath := "granary/granarykeep", byteOffset := 0 }, { name := "want", type := 24, offset := 1, embedded := false, tag := "", pkgPath := "granary/granarykeep", byteOffset := 24 }, { name := "texts", type := 26, offset := 2, embedded := false, tag := "", pkgPath := "granary/granarykeep", byteOffset := 48 }, { name := "textsWant", type := 26, offset := 3, embedded := false, tag := "", pkgPath := "granary/granarykeep", byteOffset := 72 }]) := by kernel_rfl
theorem us_35 : (Go.Proofs.Try.prog.underlying 35).isSome = true := by kernel_rfl
theorem ag_35 : aggSz Go.Proofs.Try.prog 35 = some 4 := by kernel_rfl
theorem st_35 : stPl Go.Proofs.Try.prog 35 = some [(0, 1), (1, 1), (2, 1), (3, 1)] := by kernel_rfl
theorem zc_35 : zeroCs Go.Proofs.Try.prog 35 = some [(Go.Value.slice none 0 0), (Go.Value.slice none 0 0), (Go.Value.slice none 0 0), (Go.Value.slice none 0 0)] := by kernel_rfl
theorem u_36 : Go.Proofs.Try.prog.underlying 36 = some (Go.TypeDesc.int Go.IntKind.u64) := by kernel_rfl
theorem us_36 : (Go.Proofs.Try.prog.underlying 36).isSome = true := by kernel_rfl
theorem sc_36 : scal Go.Proofs.Try.prog 36 = true := by kernel_rfl
theorem zc_36 : zeroCs Go.Proofs.Try.prog 36 = some [(Go.Value.int Go.IntKind.u64 0)] := by kernel_rfl
theorem u_37 : Go.Proofs.Try.prog.underlying 37 = some (Go.TypeDesc.slice 5) := by kernel_rfl
theorem us_37 : (Go.Proofs.Try.prog.underlying 37).isSome = true := by kernel_rfl
theorem sc_37 : scal Go.Proofs.Try.prog 37 = true := by kernel_rfl
theorem zc_37 : zeroCs Go.Proofs.Try.prog 37 = some [(Go.Value.slice none 0 0)] := by kernel_rfl
theorem sl_37 : slElem Go.Proofs.Try.prog 37 = some (5, 1) := by kernel_rfl
theorem ap_37 : apT Go.Proofs.Try.prog 37 = some (5, 1, 1, [(Go.Value.int Go.IntKind.u8 0)]) := by kernel_rfl
theorem ni_37 : notInt Go.Proofs.Try.prog 37 = true := by kernel_rfl
theorem u_39 : Go.Proofs.Try.prog.underlying 39 = some (Go.TypeDesc.struct #[{ name := "Reply", type := 4, offset := 0, embedded := false, tag := "", pkgPath := "", byteOffset := 0 }, { name := "Op", type := 3, offset := 1, embedded := false, tag := "", pkgPath := "", byteOffset := 8 }, { name := "Status", type := 3, offset := 2, embedded := false, tag := "", pkgPath := "", byteOffset := 16 }, { name := "Opaque", type := 36, offset := 3, embedded := false, tag := "", pkgPath := "", byteOffset := 24 }, { name := "Token", type := 36, offset := 4, embedded := false, tag := "", pkgPath := "", byteOffset := 32 }, { name := "Extras", type := 37, offset := 5, embedded := false, tag := "", pkgPath := "", byteOffset := 40 }, { name := "Key", type := 9, offset := 6, embedded := false, tag := "", pkgPath := "", byteOffset := 64 }, { name := "Value", type := 37, offset := 7, embedded := false, tag := "", pkgPath := "", byteOffset := 80 }, { name := "Large", type := 4, offset := 8, embedded := false, tag := "", pkgPath := "", byteOffset := 104 }]) := by kernel_rfl
theorem us_39 : (Go.Proofs.Try.prog.underlying 39).isSome = true := by kernel_rfl
theorem ag_39 : aggSz Go.Proofs.Try.prog 39 = some 9 := by kernel_rfl
theorem st_39 : stPl Go.Proofs.Try.prog 39 = some [(0, 1), (1, 1), (2, 1), (3, 1), (4, 1), (5, 1), (6, 1), (7, 1), (8, 1)] := by kernel_rfl
theorem zc_39 : zeroCs Go.Proofs.Try.prog 39 = some [(Go.Value.bool false), (Go.Value.int Go.IntKind.i64 0), (Go.Value.int Go.IntKind.i64 0), (Go.Value.int Go.IntKind.u64 0), (Go.Value.int Go.IntKind.u64 0), (Go.Value.slice none 0 0), (Go.Value.string { data := #[] }), (Go.Value.slice none 0 0), (Go.Value.bool false)] := by kernel_rfl
theorem u_42 : Go.Proofs.Try.prog.underlying 42 = some (Go.TypeDesc.int Go.IntKind.i64) := by kernel_rfl
theorem us_42 : (Go.Proofs.Try.prog.underlying 42).isSome = true := by kernel_rfl
theorem sc_42 : scal Go.Proofs.Try.prog 42 = true := by kernel_rfl
theorem zc_42 : zeroCs Go.Proofs.Try.prog 42 = some [(Go.Value.int Go.IntKind.i64 0)] := by kernel_rfl
theorem u_58 : Go.Proofs.Try.prog.underlying 58 = some (Go.TypeDesc.pointer 95) := by kernel_rfl
theorem us_58 : (Go.Proofs.Try.prog.underlying 58).isSome = true := by kernel_rfl
theorem sc_58 : scal Go.Proofs.Try.prog 58 = true := by kernel_rfl
theorem zc_58 : zeroCs Go.Proofs.Try.prog 58 = some [(Go.Value.pointer none)] := by kernel_rfl
theorem u_60 : Go.Proofs.Try.prog.underlying 60 = some (Go.TypeDesc.pointer 97) := by kernel_rfl
theorem us_60 : (Go.Proofs.Try.prog.underlying 60).isSome = true := by kernel_rfl
theorem sc_60 : scal Go.Proofs.Try.prog 60 = true := by kernel_rfl
theorem zc_60 : zeroCs Go.Proofs.Try.prog 60 = some [(Go.Value.pointer none)] := by kernel_rfl
theorem u_64 : Go.Proofs.Try.prog.underlying 64 = some (Go.TypeDesc.slice 22) := by kernel_rfl
theorem us_64 : (Go.Proofs.Try.prog.underlying 64).isSome = true := by kernel_rfl
theorem sc_64 : scal Go.Proofs.Try.prog 64 = true := by kernel_rfl
theorem zc_64 : zeroCs Go.Proofs.Try.prog 64 = some [(Go.Value.slice none 0 0)] := by kernel_rfl
theorem sl_64 : slElem Go.Proofs.Try.prog 64 = some (22, 1) := by kernel_rfl
theorem ap_64 : apT Go.Proofs.Try.prog 64 = some (22, 1, 24, [(Go.Value.slice none 0 0)]) := by kernel_rfl
theorem ni_64 : notInt Go.Proofs.Try.prog 64 = true := by kernel_rfl
theorem u_70 : Go.Proofs.Try.prog.underlying 70 = some (Go.TypeDesc.struct #[{ name := "P", type := 39, offset := 0, embedded := false, tag := "", pkgPath := "", byteOffset := 0 }, { name := "Tail", type := 37, offset := 9, embedded := false, tag := "", pkgPath := "", byteOffset := 112 }, { name := "More", type := 3, offset := 10, embedded := false, tag := "", pkgPath := "", byteOffset := 136 }, { name := "Cut", type := 3, offset := 11, embedded := false, tag := "", pkgPath := "", byteOffset := 144 }]) := by kernel_rfl
theorem us_70 : (Go.Proofs.Try.prog.underlying 70).isSome = true := by kernel_rfl
theorem ag_70 : aggSz Go.Proofs.Try.prog 70 = some 12 := by kernel_rfl
theorem st_70 : stPl Go.Proofs.Try.prog 70 = some [(0, 9), (9, 1), (10, 1), (11, 1)] := by kernel_rfl
theorem zc_70 : zeroCs Go.Proofs.Try.prog 70 = some [(Go.Value.bool false), (Go.Value.int Go.IntKind.i64 0), (Go.Value.int Go.IntKind.i64 0), (Go.Value.int Go.IntKind.u64 0), (Go.Value.int Go.IntKind.u64 0), (Go.Value.slice none 0 0), (Go.Value.string { data := #[] }), (Go.Value.slice none 0 0), (Go.Value.bool false), (Go.Value.slice none 0 0), (Go.Value.int Go.IntKind.i64 0), (Go.Value.int Go.IntKind.i64 0)] := by kernel_rfl
theorem u_73 : Go.Proofs.Try.prog.underlying 73 = some (Go.TypeDesc.slice 3) := by kernel_rfl
theorem us_73 : (Go.Proofs.Try.prog.underlying 73).isSome = true := by kernel_rfl
theorem sc_73 : scal Go.Proofs.Try.prog 73 = true := by kernel_rfl
theorem zc_73 : zeroCs Go.Proofs.Try.prog 73 = some [(Go.Value.slice none 0 0)] := by kernel_rfl
theorem sl_73 : slElem Go.Proofs.Try.prog 73 = some (3, 1) := by kernel_rfl
theorem ap_73 : apT Go.Proofs.Try.prog 73 = some (3, 1, 8, [(Go.Value.int Go.IntKind.i64 0)]) := by kernel_rfl
theorem ni_73 : notInt Go.Proofs.Try.prog 73 = true := by kernel_rfl
theorem u_75 : Go.Proofs.Try.prog.underlying 75 = some (Go.TypeDesc.struct #[{ name := "Raw", type := 37, offset := 0, embedded := false, tag := "", pkgPath := "", byteOffset := 0 }, { name := "One", type := 73, offset := 1, embedded := false, tag := "", pkgPath := "", byteOffset := 24 }, { name := "Two", type := 73, offset := 2, embedded := false, tag := "", pkgPath := "", byteOffset := 48 }, { name := "Limit", type := 3, offset := 3, embedded := false, tag := "", pkgPath := "", byteOffset := 72 }]) := by kernel_rfl
theorem us_75 : (Go.Proofs.Try.prog.underlying 75).isSome = true := by kernel_rfl
theorem ag_75 : aggSz Go.Proofs.Try.prog 75 = some 4 := by kernel_rfl
theorem st_75 : stPl Go.Proofs.Try.prog 75 = some [(0, 1), (1, 1), (2, 1), (3, 1)] := by kernel_rfl
theorem zc_75 : zeroCs Go.Proofs.Try.prog 75 = some [(Go.Value.slice none 0 0), (Go.Value.slice none 0 0), (Go.Value.slice none 0 0), (Go.Value.int Go.IntKind.i64 0)] := by kernel_rfl
theorem u_83 : Go.Proofs.Try.prog.underlying 83 = some (Go.TypeDesc.int Go.IntKind.u16) := by kernel_rfl
theorem us_83 : (Go.Proofs.Try.prog.underlying 83).isSome = true := by kernel_rfl
theorem sc_83 : scal Go.Proofs.Try.prog 83 = true := by kernel_rfl
theorem zc_83 : zeroCs Go.Proofs.Try.prog 83 = some [(Go.Value.int Go.IntKind.u16 0)] := by kernel_rfl
theorem u_85 : Go.Proofs.Try.prog.underlying 85 = some (Go.TypeDesc.int Go.IntKind.u32) := by kernel_rfl
theorem us_85 : (Go.Proofs.Try.prog.underlying 85).isSome = true := by kernel_rfl
theorem sc_85 : scal Go.Proofs.Try.prog 85 = true := by kernel_rfl
theorem zc_85 : zeroCs Go.Proofs.Try.prog 85 = some [(Go.Value.int Go.IntKind.u32 0)] := by kernel_rfl
theorem u_89 : Go.Proofs.Try.prog.underlying 89 = some (Go.TypeDesc.slice 9) := by kernel_rfl
theorem us_89 : (Go.Proofs.Try.prog.underlying 89).isSome = true := by kernel_rfl
theorem sc_89 : scal Go.Proofs.Try.prog 89 = true := by kernel_rfl
theorem zc_89 : zeroCs Go.Proofs.Try.prog 89 = some [(Go.Value.slice none 0 0)] := by kernel_rfl
theorem sl_89 : slElem Go.Proofs.Try.prog 89 = some (9, 1) := by kernel_rfl
theorem ap_89 : apT Go.Proofs.Try.prog 89 = some (9, 1, 16, [(Go.Value.string { data := #[] })]) := by kernel_rfl
theorem ni_89 : notInt Go.Proofs.Try.prog 89 = true := by kernel_rfl
theorem u_95 : Go.Proofs.Try.prog.underlying 95 = some (Go.TypeDesc.struct #[{ name := "limit", type := 3, offset := 0, embedded := false, tag := "", pkgPath := "granary/packet", byteOffset := 0 }, { name := "kept", type := 37, offset := 1, embedded := false, tag := "", pkgPath := "granary/packet", byteOffset := 8 }, { name := "passed", type := 3, offset := 2, embedded := false, tag := "", pkgPath := "granary/packet", byteOffset := 32 }, { name := "broken", type := 4, offset := 3, embedded := false, tag := "", pkgPath := "granary/packet", byteOffset := 40 }, { name := "taken", type := 3, offset := 4, embedded := false, tag := "", pkgPath := "granary/packet", byteOffset := 48 }]) := by kernel_rfl
theorem us_95 : (Go.Proofs.Try.prog.underlying 95).isSome = true := by kernel_rfl
theorem ag_95 : aggSz Go.Proofs.Try.prog 95 = some 5 := by kernel_rfl
theorem st_95 : stPl Go.Proofs.Try.prog 95 = some [(0, 1), (1, 1), (2, 1), (3, 1), (4, 1)] := by kernel_rfl
theorem zc_95 : zeroCs Go.Proofs.Try.prog 95 = some [(Go.Value.int Go.IntKind.i64 0), (Go.Value.slice none 0 0), (Go.Value.int Go.IntKind.i64 0), (Go.Value.bool false), (Go.Value.int Go.IntKind.i64 0)] := by kernel_rfl
theorem u_97 : Go.Proofs.Try.prog.underlying 97 = some (Go.TypeDesc.struct #[{ name := "limit", type := 3, offset := 0, embedded := false, tag := "", pkgPath := "granary/granaryref22", byteOffset := 0 }, { name := "rest", type := 37, offset := 1, embedded := false, tag := "", pkgPath := "granary/granaryref22", byteOffset := 8 }, { name := "taken", type := 3, offset := 2, embedded := false, tag := "", pkgPath := "granary/granaryref22", byteOffset := 32 }, { name := "bad", type := 4, offset := 3, embedded := false, tag := "", pkgPath := "granary/granaryref22", byteOffset := 40 }]) := by kernel_rfl
theorem us_97 : (Go.Proofs.Try.prog.underlying 97).isSome = true := by kernel_rfl
theorem ag_97 : aggSz Go.Proofs.Try.prog 97 = some 4 := by kernel_rfl
theorem st_97 : stPl Go.Proofs.Try.prog 97 = some [(0, 1), (1, 1), (2, 1), (3, 1)] := by kernel_rfl
theorem zc_97 : zeroCs Go.Proofs.Try.prog 97 = some [(Go.Value.int Go.IntKind.i64 0), (Go.Value.slice none 0 0), (Go.Value.int Go.IntKind.i64 0), (Go.Value.bool false)] := by kernel_rfl
theorem u_102 : Go.Proofs.Try.prog.underlying 102 = some (Go.TypeDesc.slice 109) := by kernel_rfl
theorem us_102 : (Go.Proofs.Try.prog.underlying 102).isSome = true := by kernel_rfl
theorem sc_102 : scal Go.Proofs.Try.prog 102 = true := by kernel_rfl
theorem zc_102 : zeroCs Go.Proofs.Try.prog 102 = some [(Go.Value.slice none 0 0)] := by kernel_rfl
theorem sl_102 : slElem Go.Proofs.Try.prog 102 = some (109, 1) := by kernel_rfl
theorem ap_102 : apT Go.Proofs.Try.prog 102 = some (109, 1, 8, [(Go.Value.int Go.IntKind.u64 0)]) := by kernel_rfl
theorem ni_102 : notInt Go.Proofs.Try.prog 102 = true := by kernel_rfl
theorem u_104 : Go.Proofs.Try.prog.underlying 104 = some (Go.TypeDesc.slice 112) := by kernel_rfl
theorem us_104 : (Go.Proofs.Try.prog.underlying 104).isSome = true := by kernel_rfl
theorem sc_104 : scal Go.Proofs.Try.prog 104 = true := by kernel_rfl
theorem zc_104 : zeroCs Go.Proofs.Try.prog 104 = some [(Go.Value.slice none 0 0)] := by kernel_rfl
theorem sl_104 : slElem Go.Proofs.Try.prog 104 = some (112, 9) := by kernel_rfl
theorem ap_104 : apT Go.Proofs.Try.prog 104 = some (112, 9, 80, [(Go.Value.string { data := #[] }), (Go.Value.slice none 0 0), (Go.Value.int Go.IntKind.u64 0), (Go.Value.int Go.IntKind.i64 0), (Go.Value.int Go.IntKind.u64 0), (Go.Value.int Go.IntKind.i64 0), (Go.Value.bool false), (Go.Value.bool false), (Go.Value.bool false)]) := by kernel_rfl
theorem ni_104 : notInt Go.Proofs.Try.prog 104 = true := by kernel_rfl
theorem u_109 : Go.Proofs.Try.prog.underlying 109 = some (Go.TypeDesc.int Go.IntKind.u64) := by kernel_rfl
theorem us_109 : (Go.Proofs.Try.prog.underlying 109).isSome = true := by kernel_rfl
theorem sc_109 : scal Go.Proofs.Try.prog 109 = true := by kernel_rfl
theorem zc_109 : zeroCs Go.Proofs.Try.prog 109 = some [(Go.Value.int Go.IntKind.u64 0)] := by kernel_rfl
theorem u_112 : Go.Proofs.Try.prog.underlying 112 = some (Go.TypeDesc.struct #[{ name := "Key", type := 9, offset := 0, embedded := false, tag := "", pkgPath := "", byteOffset := 0 }, { name := "Value", type := 37, offset := 1, embedded := false, tag := "", pkgPath := "", byteOffset := 16 }, { name := "Flags", type := 36, offset := 2, embedded := false, tag := "", pkgPath := "", byteOffset := 40 }, { name := "Expiry", type := 3, offset := 3, embedded := false, tag := "", pkgPath := "", byteOffset := 48 }, { name := "Token", type := 36, offset := 4, embedded := false, tag := "", pkgPath := "", byteOffset := 56 }, { name := "Touched", type := 3, offset := 5, embedded := false, tag := "", pkgPath := "", byteOffset := 64 }, { name := "Stale", type := 4, offset := 6, embedded := false, tag := "", pkgPath := "", byteOffset := 72 }, { name := "Won", type := 4, offset := 7, embedded := false, tag := "", pkgPath := "", byteOffset := 73 }, { name := "Hit", type := 4, offset := 8, embedded := false, tag := "", pkgPath := "", byteOffset := 74 }]) := by kernel_rfl
theorem us_112 : (Go.Proofs.Try.prog.underlying 112).isSome = true := by kernel_rfl
theorem ag_112 : aggSz Go.Proofs.Try.prog 112 = some 9 := by kernel_rfl
theorem st_112 : stPl Go.Proofs.Try.prog 112 = some [(0, 1), (1, 1), (2, 1), (3, 1), (4, 1), (5, 1), (6, 1), (7, 1), (8, 1)] := by kernel_rfl
theorem zc_112 : zeroCs Go.Proofs.Try.prog 112 = some [(Go.Value.string { data := #[] }), (Go.Value.slice none 0 0), (Go.Value.int Go.IntKind.u64 0), (Go.Value.int Go.IntKind.i64 0), (Go.Value.int Go.IntKind.u64 0), (Go.Value.int Go.IntKind.i64 0), (Go.Value.bool false), (Go.Value.bool false), (Go.Value.bool false)] := by kernel_rfl
theorem u_114 : Go.Proofs.Try.prog.underlying 114 = some (Go.TypeDesc.slice 117) := by kernel_rfl
theorem us_114 : (Go.Proofs.Try.prog.underlying 114).isSome = true := by kernel_rfl
theorem sc_114 : scal Go.Proofs.Try.prog 114 = true := by kernel_rfl
theorem zc_114 : zeroCs Go.Proofs.Try.prog 114 = some [(Go.Value.slice none 0 0)] := by kernel_rfl
theorem sl_114 : slElem Go.Proofs.Try.prog 114 = some (117, 5) := by kernel_rfl
theorem ap_114 : apT Go.Proofs.Try.prog 114 = some (117, 5, 80, [(Go.Value.int Go.IntKind.i64 0), (Go.Value.slice none 0 0), (Go.Value.int Go.IntKind.u64 0), (Go.Value.string { data := #[] }), (Go.Value.slice none 0 0)]) := by kernel_rfl
theorem ni_114 : notInt Go.Proofs.Try.prog 114 = true := by kernel_rfl
theorem u_117 : Go.Proofs.Try.prog.underlying 117 = some (Go.TypeDesc.struct #[{ name := "Kind", type := 3, offset := 0, embedded := false, tag := "", pkgPath := "", byteOffset := 0 }, { name := "Entries", type := 104, offset := 1, embedded := false, tag := "", pkgPath := "", byteOffset := 8 }, { name := "Number", type := 36, offset := 2, embedded := false, tag := "", pkgPath := "", byteOffset := 32 }, { name := "Text", type := 9, offset := 3, embedded := false, tag := "", pkgPath := "", byteOffset := 40 }, { name := "Stats", type := 115, offset := 4, embedded := false, tag := "", pkgPath := "", byteOffset := 56 }]) := by kernel_rfl
theorem us_117 : (Go.Proofs.Try.prog.underlying 117).isSome = true := by kernel_rfl
theorem ag_117 : aggSz Go.Proofs.Try.prog 117 = some 5 := by kernel_rfl
theorem st_117 : stPl Go.Proofs.Try.prog 117 = some [(0, 1), (1, 1), (2, 1), (3, 1), (4, 1)] := by kernel_rfl
theorem zc_117 : zeroCs Go.Proofs.Try.prog 117 = some [(Go.Value.int Go.IntKind.i64 0), (Go.Value.slice none 0 0), (Go.Value.int Go.IntKind.u64 0), (Go.Value.string { data := #[] }), (Go.Value.slice none 0 0)] := by kernel_rfl
theorem u_119 : Go.Proofs.Try.prog.underlying 119 = some (Go.TypeDesc.slice 126) := by kernel_rfl
theorem us_119 : (Go.Proofs.Try.prog.underlying 119).isSome = true := by kernel_rfl
theorem sc_119 : scal Go.Proofs.Try.prog 119 = true := by kernel_rfl
theorem zc_119 : zeroCs Go.Proofs.Try.prog 119 = some [(Go.Value.slice none 0 0)] := by kernel_rfl
theorem sl_119 : slElem Go.Proofs.Try.prog 119 = some (126, 16) := by kernel_rfl
theorem ap_119 : apT Go.Proofs.Try.prog 119 = some (126, 16, 184, [(Go.Value.int Go.IntKind.i64 0), (Go.Value.slice none 0 0), (Go.Value.int Go.IntKind.u64 0), (Go.Value.int Go.IntKind.i64 0), (Go.Value.int Go.IntKind.u64 0), (Go.Value.int Go.IntKind.u64 0), (Go.Value.slice none 0 0), (Go.Value.bool false), (Go.Value.bool false), (Go.Value.slice none 0 0), (Go.Value.string { data := #[] }), (Go.Value.int Go.IntKind.i64 0), (Go.Value.string { data := #[] }), (Go.Value.int Go.IntKind.i64 0), (Go.Value.int Go.IntKind.i64 0), (Go.Value.int Go.IntKind.i64 0)]) := by kernel_rfl
theorem ni_119 : notInt Go.Proofs.Try.prog 119 = true := by kernel_rfl
theorem u_126 : Go.Proofs.Try.prog.underlying 126 = some (Go.TypeDesc.struct #[{ name := "Command", type := 122, offset := 0, embedded := false, tag := "", pkgPath := "", byteOffset := 0 }, { name := "Wrong", type := 124, offset := 11, embedded := false, tag := "", pkgPath := "", byteOffset := 136 }, { name := "From", type := 3, offset := 14, embedded := false, tag := "", pkgPath := "", byteOffset := 168 }, { name := "To", type := 3, offset := 15, embedded := false, tag := "", pkgPath := "", byteOffset := 176 }]) := by kernel_rfl
theorem us_126 : (Go.Proofs.Try.prog.underlying 126).isSome = true := by kernel_rfl
theorem ag_126 : aggSz Go.Proofs.Try.prog 126 = some 16 := by kernel_rfl
theorem st_126 : stPl Go.Proofs.Try.prog 126 = some [(0, 11), (11, 3), (14, 1), (15, 1)] := by kernel_rfl
theorem zc_126 : zeroCs Go.Proofs.Try.prog 126 = some [(Go.Value.int Go.IntKind.i64 0), (Go.Value.slice none 0 0), (Go.Value.int Go.IntKind.u64 0), (Go.Value.int Go.IntKind.i64 0), (Go.Value.int Go.IntKind.u64 0), (Go.Value.int Go.IntKind.u64 0), (Go.Value.slice none 0 0), (Go.Value.bool false), (Go.Value.bool false), (Go.Value.slice none 0 0), (Go.Value.string { data := #[] }), (Go.Value.int Go.IntKind.i64 0), (Go.Value.string { data := #[] }), (Go.Value.int Go.IntKind.i64 0), (Go.Value.int Go.IntKind.i64 0), (Go.Value.int Go.IntKind.i64 0)] := by kernel_rfl
theorem fld_32_0 : fldOff Go.Proofs.Try.prog 32 0 = some 0 := by kernel_rfl
theorem fld_32_1 : fldOff Go.Proofs.Try.prog 32 1 = some 1 := by kernel_rfl
theorem fld_32_2 : fldOff Go.Proofs.Try.prog 32 2 = some 2 := by kernel_rfl
theorem fld_32_3 : fldOff Go.Proofs.Try.prog 32 3 = some 3 := by kernel_rfl
theorem fld_32_4 : fldOff Go.Proofs.Try.prog 32 4 = some 4 := by kernel_rfl
theorem fld_32_5 : fldOff Go.Proofs.Try.prog 32 5 = some 5 := by kernel_rfl
theorem fld_32_6 : fldOff Go.Proofs.Try.prog 32 6 = some 6 := by kernel_rfl
theorem fld_32_7 : fldOff Go.Proofs.Try.prog 32 7 = some 7 := by kernel_rfl
theorem fld_32_8 : fldOff Go.Proofs.Try.prog 32 8 = some 8 := by kernel_rfl
theorem fld_32_9 : fldOff Go.Proofs.Try.prog 32 9 = some 9 := by kernel_rfl
theorem fld_32_10 : fldOff Go.Proofs.Try.prog 32 10 = some 10 := by kernel_rfl
theorem fld_32_11 : fldOff Go.Proofs.Try.prog 32 11 = some 11 := by kernel_rfl
theorem fld_32_12 : fldOff Go.Proofs.Try.prog 32 12 = some 12 := by kernel_rfl
theorem fld_32_13 : fldOff Go.Proofs.Try.prog 32 13 = some 13 := by kernel_rfl
theorem fld_32_14 : fldOff Go.Proofs.Try.prog 32 14 = some 14 := by kernel_rfl
theorem fld_32_15 : fldOff Go.Proofs.Try.prog 32 15 = some 15 := by kernel_rfl
theorem fld_32_16 : fldOff Go.Proofs.Try.prog 32 16 = some 16 := by kernel_rfl
theorem fld_32_17 : fldOff Go.Proofs.Try.prog 32 17 = some 17 := by kernel_rfl
theorem fld_32_18 : fldOff Go.Proofs.Try.prog 32 18 = some 18 := by kernel_rfl
theorem fld_32_19 : fldOff Go.Proofs.Try.prog 32 19 = some 19 := by kernel_rfl
theorem fld_32_20 : fldOff Go.Proofs.Try.prog 32 20 = some 20 := by kernel_rfl
theorem fld_32_21 : fldOff Go.Proofs.Try.prog 32 21 = some 21 := by kernel_rfl
theorem fld_32_22 : fldOff Go.Proofs.Try.prog 32 22 = some 22 := by kernel_rfl
theorem fld_32_23 : fldOff Go.Proofs.Try.prog 32 23 = some 23 := by kernel_rfl
theorem fld_32_24 : fldOff Go.Proofs.Try.prog 32 24 = some 24 := by kernel_rfl
theorem fld_32_25 : fldOff Go.Proofs.Try.prog 32 25 = some 25 := by kernel_rfl
theorem fld_32_26 : fldOff Go.Proofs.Try.prog 32 26 = some 26 := by kernel_rfl
theorem fld_35_0 : fldOff Go.Proofs.Try.prog 35 0 = some 0 := by kernel_rfl
theorem fld_35_1 : fldOff Go.Proofs.Try.prog 35 1 = some 1 := by kernel_rfl
theorem fld_35_2 : fldOff Go.Proofs.Try.prog 35 2 = some 2 := by kernel_rfl
theorem fld_35_3 : fldOff Go.Proofs.Try.prog 35 3 = some 3 := by kernel_rfl
theorem fld_39_0 : fldOff Go.Proofs.Try.prog 39 0 = some 0 := by kernel_rfl
theorem fld_39_1 : fldOff Go.Proofs.Try.prog 39 1 = some 1 := by kernel_rfl
theorem fld_39_2 : fldOff Go.Proofs.Try.prog 39 2 = some 2 := by kernel_rfl
theorem fld_39_3 : fldOff Go.Proofs.Try.prog 39 3 = some 3 := by kernel_rfl
theorem fld_39_4 : fldOff Go.Proofs.Try.prog 39 4 = some 4 := by kernel_rfl
theorem fld_39_5 : fldOff Go.Proofs.Try.prog 39 5 = some 5 := by kernel_rfl
theorem fld_39_6 : fldOff Go.Proofs.Try.prog 39 6 = some 6 := by kernel_rfl
theorem fld_39_7 : fldOff Go.Proofs.Try.prog 39 7 = some 7 := by kernel_rfl
theorem fld_39_8 : fldOff Go.Proofs.Try.prog 39 8 = some 8 := by kernel_rfl
theorem fld_70_0 : fldOff Go.Proofs.Try.prog 70 0 = some 0 := by kernel_rfl
theorem fld_70_1 : fldOff Go.Proofs.Try.prog 70 1 = some 9 := by kernel_rfl
theorem fld_70_2 : fldOff Go.Proofs.Try.prog 70 2 = some 10 := by kernel_rfl
theorem fld_75_0 : fldOff Go.Proofs.Try.prog 75 0 = some 0 := by kernel_rfl
theorem fld_75_1 : fldOff Go.Proofs.Try.prog 75 1 = some 1 := by kernel_rfl
theorem fld_75_2 : fldOff Go.Proofs.Try.prog 75 2 = some 2 := by kernel_rfl
theorem fld_75_3 : fldOff Go.Proofs.Try.prog 75 3 = some 3 := by kernel_rfl
theorem fld_95_0 : fldOff Go.Proofs.Try.prog 95 0 = some 0 := by kernel_rfl
theorem fld_95_1 : fldOff Go.Proofs.Try.prog 95 1 = some 1 := by kernel_rfl
theorem fld_95_2 : fldOff Go.Proofs.Try.prog 95 2 = some 2 := by kernel_rfl
theorem fld_95_3 : fldOff Go.Proofs.Try.prog 95 3 = some 3 := by kernel_rfl
theorem fld_95_4 : fldOff Go.Proofs.Try.prog 95 4 = some 4 := by kernel_rfl
theorem fld_97_0 : fldOff Go.Proofs.Try.prog 97 0 = some 0 := by kernel_rfl
theorem fld_97_1 : fldOff Go.Proofs.Try.prog 97 1 = some 1 := by kernel_rfl
theorem fld_97_2 : fldOff Go.Proofs.Try.prog 97 2 = some 2 := by kernel_rfl
theorem fld_97_3 : fldOff Go.Proofs.Try.prog 97 3 = some 3 := by kernel_rfl
theorem fld_112_0 : fldOff Go.Proofs.Try.prog 112 0 = some 0 := by kernel_rfl
theorem fld_112_1 : fldOff Go.Proofs.Try.prog 112 1 = some 1 := by kernel_rfl
theorem fld_112_2 : fldOff Go.Proofs.Try.prog 112 2 = some 2 := by kernel_rfl
theorem fld_112_3 : fldOff Go.Proofs.Try.prog 112 3 = some 3 := by kernel_rfl
theorem fld_112_4 : fldOff Go.Proofs.Try.prog 112 4 = some 4 := by kernel_rfl
theorem fld_112_5 : fldOff Go.Proofs.Try.prog 112 5 = some 5 := by kernel_rfl
theorem fld_112_6 : fldOff Go.Proofs.Try.prog 112 6 = some 6 := by kernel_rfl
theorem fld_112_7 : fldOff Go.Proofs.Try.prog 112 7 = some 7 := by kernel_rfl
theorem fld_112_8 : fldOff Go.Proofs.Try.prog 112 8 = some 8 := by kernel_rfl
theorem fld_117_3 : fldOff Go.Proofs.Try.prog 117 3 = some 3 := by kernel_rfl
theorem fld_126_2 : fldOff Go.Proofs.Try.prog 126 2 = some 14 := by kernel_rfl
theorem fn_2 : isFn Go.Proofs.Try.prog 2 = true := by kernel_rfl
theorem fn_3 : isFn Go.Proofs.Try.prog 3 = true := by kernel_rfl
theorem fn_4 : isFn Go.Proofs.Try.prog 4 = true := by kernel_rfl
theorem fn_5 : isFn Go.Proofs.Try.prog 5 = true := by kernel_rfl
theorem fn_6 : isFn Go.Proofs.Try.prog 6 = true := by kernel_rfl
theorem fn_7 : isFn Go.Proofs.Try.prog 7 = true := by kernel_rfl
theorem fn_8 : isFn Go.Proofs.Try.prog 8 = true := by kernel_rfl
theorem fn_9 : isFn Go.Proofs.Try.prog 9 = true := by kernel_rfl
theorem fn_10 : isFn Go.Proofs.Try.prog 10 = true := by kernel_rfl
theorem fn_11 : isFn Go.Proofs.Try.prog 11 = true := by kernel_rfl
theorem fn_12 : isFn Go.Proofs.Try.prog 12 = true := by kernel_rfl
theorem fn_13 : isFn Go.Proofs.Try.prog 13 = true := by kernel_rfl
theorem fn_14 : isFn Go.Proofs.Try.prog 14 = true := by kernel_rfl
theorem fn_15 : isFn Go.Proofs.Try.prog 15 = true := by kernel_rfl
theorem fn_16 : isFn Go.Proofs.Try.prog 16 = true := by kernel_rfl
theorem fn_17 : isFn Go.Proofs.Try.prog 17 = true := by kernel_rfl
theorem fn_18 : isFn Go.Proofs.Try.prog 18 = true := by kernel_rfl
theorem fn_19 : isFn Go.Proofs.Try.prog 19 = true := by kernel_rfl
theorem fn_20 : isFn Go.Proofs.Try.prog 20 = true := by kernel_rfl
theorem fn_21 : isFn Go.Proofs.Try.prog 21 = true := by kernel_rfl
theorem fn_22 : isFn Go.Proofs.Try.prog 22 = true := by kernel_rfl
theorem fn_23 : isFn Go.Proofs.Try.prog 23 = true := by kernel_rfl
theorem fn_24 : isFn Go.Proofs.Try.prog 24 = true := by kernel_rfl
theorem fn_25 : isFn Go.Proofs.Try.prog 25 = true := by kernel_rfl
theorem fn_26 : isFn Go.Proofs.Try.prog 26 = true := by kernel_rfl
theorem fn_27 : isFn Go.Proofs.Try.prog 27 = true := by kernel_rfl
theorem fn_28 : isFn Go.Proofs.Try.prog 28 = true := by kernel_rfl
theorem fn_29 : isFn Go.Proofs.Try.prog 29 = true := by kernel_rfl
theorem fn_30 : isFn Go.Proofs.Try.prog 30 = true := by kernel_rfl
theorem fn_31 : isFn Go.Proofs.Try.prog 31 = true := by kernel_rfl
theorem fn_32 : isFn Go.Proofs.Try.prog 32 = true := by kernel_rfl
theorem fn_33 : isFn Go.Proofs.Try.prog 33 = true := by kernel_rfl
theorem fn_34 : isFn Go.Proofs.Try.prog 34 = true := by kernel_rfl
theorem fn_35 : isFn Go.Proofs.Try.prog 35 = true := by kernel_rfl
theorem fn_36 : isFn Go.Proofs.Try.prog 36 = true := by kernel_rfl
theorem fn_37 : isFn Go.Proofs.Try.prog 37 = true := by kernel_rfl
theorem fn_38 : isFn Go.Proofs.Try.prog 38 = true := by kernel_rfl
theorem fn_39 : isFn Go.Proofs.Try.prog 39 = true := by kernel_rfl
theorem fn_40 : isFn Go.Proofs.Try.prog 40 = true := by kernel_rfl
theorem fn_41 : isFn Go.Proofs.Try.prog 41 = true := by kernel_rfl
theorem fn_42 : isFn Go.Proofs.Try.prog 42 = true := by kernel_rfl
theorem fn_43 : isFn Go.Proofs.Try.prog 43 = true := by kernel_rfl
theorem fn_44 : isFn Go.Proofs.Try.prog 44 = true := by kernel_rfl
theorem fn_45 : isFn Go.Proofs.Try.prog 45 = true := by kernel_rfl
theorem fn_46 : isFn Go.Proofs.Try.prog 46 = true := by kernel_rfl
theorem fn_47 : isFn Go.Proofs.Try.prog 47 = true := by kernel_rfl
theorem fn_48 : isFn Go.Proofs.Try.prog 48 = true := by kernel_rfl
theorem fn_49 : isFn Go.Proofs.Try.prog 49 = true := by kernel_rfl
theorem fn_50 : isFn Go.Proofs.Try.prog 50 = true := by kernel_rfl
theorem fn_51 : isFn Go.Proofs.Try.prog 51 = true := by kernel_rfl
theorem fn_52 : isFn Go.Proofs.Try.prog 52 = true := by kernel_rfl
theorem fn_53 : isFn Go.Proofs.Try.prog 53 = true := by kernel_rfl
theorem fn_54 : isFn Go.Proofs.Try.prog 54 = true := by kernel_rfl
theorem fn_55 : isFn Go.Proofs.Try.prog 55 = true := by kernel_rfl
theorem fn_56 : isFn Go.Proofs.Try.prog 56 = true := by kernel_rfl
theorem fn_57 : isFn Go.Proofs.Try.prog 57 = true := by kernel_rfl
theorem fn_58 : isFn Go.Proofs.Try.prog 58 = true := by kernel_rfl
theorem fn_59 : isFn Go.Proofs.Try.prog 59 = true := by kernel_rfl
theorem fn_60 : isFn Go.Proofs.Try.prog 60 = true := by kernel_rfl
theorem fn_61 : isFn Go.Proofs.Try.prog 61 = true := by kernel_rfl
theorem fn_62 : isFn Go.Proofs.Try.prog 62 = true := by kernel_rfl
theorem fn_63 : isFn Go.Proofs.Try.prog 63 = true := by kernel_rfl
theorem fn_64 : isFn Go.Proofs.Try.prog 64 = true := by kernel_rfl
theorem fn_65 : isFn Go.Proofs.Try.prog 65 = true := by kernel_rfl
theorem fn_66 : isFn Go.Proofs.Try.prog 66 = true := by kernel_rfl
theorem fn_67 : isFn Go.Proofs.Try.prog 67 = true := by kernel_rfl
theorem fn_68 : isFn Go.Proofs.Try.prog 68 = true := by kernel_rfl
theorem fn_69 : isFn Go.Proofs.Try.prog 69 = true := by kernel_rfl
theorem fn_70 : isFn Go.Proofs.Try.prog 70 = true := by kernel_rfl
theorem fn_71 : isFn Go.Proofs.Try.prog 71 = true := by kernel_rfl
theorem fn_72 : isFn Go.Proofs.Try.prog 72 = true := by kernel_rfl
theorem fn_73 : isFn Go.Proofs.Try.prog 73 = true := by kernel_rfl
theorem fn_74 : isFn Go.Proofs.Try.prog 74 = true := by kernel_rfl
theorem fn_75 : isFn Go.Proofs.Try.prog 75 = true := by kernel_rfl
theorem fn_76 : isFn Go.Proofs.Try.prog 76 = true := by kernel_rfl
theorem fn_77 : isFn Go.Proofs.Try.prog 77 = true := by kernel_rfl
theorem fn_78 : isFn Go.Proofs.Try.prog 78 = true := by kernel_rfl
theorem fn_79 : isFn Go.Proofs.Try.prog 79 = true := by kernel_rfl
theorem fn_80 : isFn Go.Proofs.Try.prog 80 = true := by kernel_rfl
theorem fn_81 : isFn Go.Proofs.Try.prog 81 = true := by kernel_rfl
theorem fn_82 : isFn Go.Proofs.Try.prog 82 = true := by kernel_rfl
theorem fn_83 : isFn Go.Proofs.Try.prog 83 = true := by kernel_rfl

end Go.Proofs.Ytggmpaggmkfmoaa.T
