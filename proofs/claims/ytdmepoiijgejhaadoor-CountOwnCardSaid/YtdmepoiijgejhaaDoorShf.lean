/-
  DERIVED: THE SHELF's CONTRACTS AT THIS DUMP, IN PLAIN WORDS (tools/lay-plain.mjs out of 'YtdmepoiijgejhaaDoorSf.lean', which tools/lay-shelf.mjs wrote): THE SAME DECLARATIONS UNDER THE SAME YtdmepoiijgejhaaDoorS: 'import', 'namespace', 'open', 'def', 'theorem' AND NOTHING ELSE: no command of the shelf's: FOR A HAND-IN. Each laying: the table of numbers ('.._ren') and one theorem, a field a fact of the dump's own or the kernel's comparison; each contract: ONE APPLICATION.
-/
import Derived.Shelf.Strings.Fields
import Derived.Test.YtdmepoiijgejhaaDoorProg
namespace Go.Proofs
open Go.Shelf
def Tryd.lays157_ren : Go.Shelf.Ren := ⟨fun | 157 => 44 | 229 => 72 | 199 => 73 | 261 => 95 | 311 => 105 | 312 => 106 | n => n, fun | 9 => 9 | 31 => 29 | 3 => 3 | 5 => 5 | 4 => 4 | 119 => 117 | 0 => 0 | 40 => 119 | 152 => 147 | 21 => 21 | 154 => 149 | 51 => 82 | 141 => 151 | 196 => 162 | 193 => 159 | 198 => 165 | 49 => 163 | 194 => 160 | 201 => 168 | 226 => 172 | 46 => 153 | 227 => 173 | n => n, fun | 0 => 0 | 6 => 1 | n => n⟩
theorem Tryd.lays157 : Go.Proofs.Lays.n157 Tryd.prog Tryd.lays157_ren := {
  mixed := by kernel_rfl
  f157 := Tryd.func44.trans (congrArg some (by kernel_rfl))
  f199 := Tryd.func73.trans (congrArg some (by kernel_rfl))
  f229 := Tryd.func72.trans (congrArg some (by kernel_rfl))
  f261 := Tryd.func95.trans (congrArg some (by kernel_rfl))
  f311 := Tryd.func105.trans (congrArg some (by kernel_rfl))
  f312 := Tryd.func106.trans (congrArg some (by kernel_rfl))
  t0 := Tryd.underlying0
  a0 := Tryd.isAgg0
  z0 := Tryd.sizeOf0
  v0 := Tryd.zeroValue0
  t3 := Tryd.underlying3
  a3 := Tryd.isAgg3
  z3 := Tryd.sizeOf3
  v3 := Tryd.zeroValue3
  t4 := Tryd.underlying4
  a4 := Tryd.isAgg4
  z4 := Tryd.sizeOf4
  v4 := Tryd.zeroValue4
  t5 := Tryd.underlying5
  a5 := Tryd.isAgg5
  z5 := Tryd.sizeOf5
  v5 := Tryd.zeroValue5
  t9 := Tryd.underlying9
  a9 := Tryd.isAgg9
  z9 := Tryd.sizeOf9
  v9 := Tryd.zeroValue9
  t21 := Tryd.underlying21
  a21 := Tryd.isAgg21
  z21 := Tryd.sizeOf21
  v21 := Tryd.zeroValue21
  t31 := Tryd.underlying29
  a31 := Tryd.isAgg29
  z31 := Tryd.sizeOf29
  v31 := Tryd.zeroValue29
  t40 := Tryd.underlying119
  a40 := Tryd.isAgg119
  z40 := Tryd.sizeOf119
  v40 := Tryd.zeroValue119
  t46 := Tryd.underlying153
  a46 := Tryd.isAgg153
  z46 := Tryd.sizeOf153
  v46 := Tryd.zeroValue153
  t49 := Tryd.underlying163
  a49 := Tryd.isAgg163
  z49 := Tryd.sizeOf163
  v49 := Tryd.zeroValue163
  t51 := Tryd.underlying82
  a51 := Tryd.isAgg82
  z51 := Tryd.sizeOf82
  v51 := Tryd.zeroValue82
  t119 := Tryd.underlying117
  a119 := Tryd.isAgg117
  z119 := Tryd.sizeOf117
  t141 := Tryd.underlying151
  a141 := Tryd.isAgg151
  z141 := Tryd.sizeOf151
  v141 := Tryd.zeroValue151
  t152 := Tryd.underlying147
  a152 := Tryd.isAgg147
  z152 := Tryd.sizeOf147
  v152 := Tryd.zeroValue147
  t154 := Tryd.underlying149
  a154 := Tryd.isAgg149
  z154 := Tryd.sizeOf149
  v154 := Tryd.zeroValue149
  t193 := Tryd.underlying159
  a193 := Tryd.isAgg159
  z193 := Tryd.sizeOf159
  v193 := Tryd.zeroValue159
  t194 := Tryd.underlying160
  a194 := Tryd.isAgg160
  z194 := Tryd.sizeOf160
  v194 := Tryd.zeroValue160
  t196 := Tryd.underlying162
  a196 := Tryd.isAgg162
  z196 := Tryd.sizeOf162
  v196 := Tryd.zeroValue162
  t198 := Tryd.underlying165
  a198 := Tryd.isAgg165
  z198 := Tryd.sizeOf165
  v198 := Tryd.zeroValue165
  t201 := Tryd.underlying168
  a201 := Tryd.isAgg168
  z201 := Tryd.sizeOf168
  v201 := Tryd.zeroValue168
  t226 := Tryd.underlying172
  a226 := Tryd.isAgg172
  z226 := Tryd.sizeOf172
  v226 := Tryd.zeroValue172
  t227 := Tryd.underlying173
  a227 := Tryd.isAgg173
  z227 := Tryd.sizeOf173
  v227 := Tryd.zeroValue173
  g0 := by kernel_rfl
  g6 := by kernel_rfl }
open Go.RowKit Go.Lib in
/-- strings.Fields, the table by 'Lib.TabIs' (as strings.TrimSpace's contract). 'hg': the table's number, by its name: at a dump 'by kernel_rfl'. (LAID: no walk: one application.) -/
theorem Tryd.strings_Fields (s : ByteArray) (w : World) (hs : s.size < 4294967281) (hascii : ∀ (j : Nat) b, s.data.toList[j]? = some b → b.toNat < 128) (htab : Lib.TabIs Tryd.prog w "strings.asciiSpace" .u8 Lib.asciiSpaceTab) :
    Calls Tryd.prog 44 #[.string s] w fun e w' =>
      e = .returned (.slice (some ⟨w.heap.size, 0, none⟩) (Lib.fields s.data.toList).length (Lib.fields s.data.toList).length) ∧ w' = w.alloc (.cells ((Lib.fields s.data.toList).map fun l => Value.string ⟨l.toArray⟩).toArray 9) := Any.strings_Fields Tryd.lays157 (by kernel_rfl) (by kernel_rfl) s w hs hascii htab
end Go.Proofs
