/-
  DERIVED: THE SHELF's CONTRACTS AT THIS DUMP, IN PLAIN WORDS (tools/lay-plain.mjs out of 'TryzShelf.lean', which tools/lay-shelf.mjs wrote): THE SAME DECLARATIONS UNDER THE SAME NAMES: 'import', 'namespace', 'open', 'def', 'theorem' AND NOTHING ELSE: no command of the shelf's: FOR A HAND-IN. Each laying: the table of numbers ('.._ren') and one theorem, a field a fact of the dump's own or the kernel's comparison; each contract: ONE APPLICATION.
-/
import Derived.Shelf.Strings.Fields
import Derived.Test.YtenokfdkckhhiaaGreatDoorProg
namespace Go.Proofs
open Go.Shelf
def Tryz.lays157_ren : Go.Shelf.Ren := ⟨fun | 157 => 155 | 229 => 172 | 199 => 173 | 261 => 186 | 311 => 196 | 312 => 197 | n => n,fun | 9 => 9 | 31 => 44 | 3 => 3 | 5 => 5 | 4 => 4 | 119 => 160 | 0 => 0 | 40 => 162 | 152 => 175 | 21 => 21 | 154 => 177 | 51 => 178 | 141 => 180 | 196 => 196 | 193 => 193 | 198 => 199 | 49 => 197 | 194 => 194 | 201 => 202 | 226 => 207 | 46 => 165 | 227 => 208 | n => n,fun | 0 => 0 | 6 => 1 | n => n⟩
theorem Tryz.lays157 : Go.Proofs.Lays.n157 Tryz.prog Tryz.lays157_ren := {
 mixed := by kernel_rfl
 f157 := Tryz.func155.trans (congrArg some (by kernel_rfl))
 f199 := Tryz.func173.trans (congrArg some (by kernel_rfl))
 f229 := Tryz.func172.trans (congrArg some (by kernel_rfl))
 f261 := Tryz.func186.trans (congrArg some (by kernel_rfl))
 f311 := Tryz.func196.trans (congrArg some (by kernel_rfl))
 f312 := Tryz.func197.trans (congrArg some (by kernel_rfl))
 t0 := Tryz.underlying0
 a0 := Tryz.isAgg0
 z0 := Tryz.sizeOf0
 v0 := Tryz.zeroValue0
 t3 := Tryz.underlying3
 a3 := Tryz.isAgg3
 z3 := Tryz.sizeOf3
 v3 := Tryz.zeroValue3
 t4 := Tryz.underlying4
 a4 := Tryz.isAgg4
 z4 := Tryz.sizeOf4
 v4 := Tryz.zeroValue4
 t5 := Tryz.underlying5
 a5 := Tryz.isAgg5
 z5 := Tryz.sizeOf5
 v5 := Tryz.zeroValue5
 t9 := Tryz.underlying9
 a9 := Tryz.isAgg9
 z9 := Tryz.sizeOf9
 v9 := Tryz.zeroValue9
 t21 := Tryz.underlying21
 a21 := Tryz.isAgg21
 z21 := Tryz.sizeOf21
 v21 := Tryz.zeroValue21
 t31 := Tryz.underlying44
 a31 := Tryz.isAgg44
 z31 := Tryz.sizeOf44
 v31 := Tryz.zeroValue44
 t40 := Tryz.underlying162
 a40 := Tryz.isAgg162
 z40 := Tryz.sizeOf162
 v40 := Tryz.zeroValue162
 t46 := Tryz.underlying165
 a46 := Tryz.isAgg165
 z46 := Tryz.sizeOf165
 v46 := Tryz.zeroValue165
 t49 := Tryz.underlying197
 a49 := Tryz.isAgg197
 z49 := Tryz.sizeOf197
 v49 := Tryz.zeroValue197
 t51 := Tryz.underlying178
 a51 := Tryz.isAgg178
 z51 := Tryz.sizeOf178
 v51 := Tryz.zeroValue178
 t119 := Tryz.underlying160
 a119 := Tryz.isAgg160
 z119 := Tryz.sizeOf160
 t141 := Tryz.underlying180
 a141 := Tryz.isAgg180
 z141 := Tryz.sizeOf180
 v141 := Tryz.zeroValue180
 t152 := Tryz.underlying175
 a152 := Tryz.isAgg175
 z152 := Tryz.sizeOf175
 v152 := Tryz.zeroValue175
 t154 := Tryz.underlying177
 a154 := Tryz.isAgg177
 z154 := Tryz.sizeOf177
 v154 := Tryz.zeroValue177
 t193 := Tryz.underlying193
 a193 := Tryz.isAgg193
 z193 := Tryz.sizeOf193
 v193 := Tryz.zeroValue193
 t194 := Tryz.underlying194
 a194 := Tryz.isAgg194
 z194 := Tryz.sizeOf194
 v194 := Tryz.zeroValue194
 t196 := Tryz.underlying196
 a196 := Tryz.isAgg196
 z196 := Tryz.sizeOf196
 v196 := Tryz.zeroValue196
 t198 := Tryz.underlying199
 a198 := Tryz.isAgg199
 z198 := Tryz.sizeOf199
 v198 := Tryz.zeroValue199
 t201 := Tryz.underlying202
 a201 := Tryz.isAgg202
 z201 := Tryz.sizeOf202
 v201 := Tryz.zeroValue202
 t226 := Tryz.underlying207
 a226 := Tryz.isAgg207
 z226 := Tryz.sizeOf207
 v226 := Tryz.zeroValue207
 t227 := Tryz.underlying208
 a227 := Tryz.isAgg208
 z227 := Tryz.sizeOf208
 v227 := Tryz.zeroValue208
 g0 := by kernel_rfl
 g6 := by kernel_rfl }
open Go.RowKit Go.Lib in
theorem Tryz.strings_Fields (s : ByteArray) (w : World) (hs : s.size < 4294967281) (hascii : ∀ (j : Nat) b,s.data.toList[j]? = some b → b.toNat < 128) (htab : Lib.TabIs Tryz.prog w "strings.asciiSpace" .u8 Lib.asciiSpaceTab) :
  Calls Tryz.prog 155 #[.string s] w fun e w' =>
   e = .returned (.slice (some ⟨w.heap.size,0,none⟩) (Lib.fields s.data.toList).length (Lib.fields s.data.toList).length) ∧ w' = w.alloc (.cells ((Lib.fields s.data.toList).map fun l => Value.string ⟨l.toArray⟩).toArray 9) := Any.strings_Fields Tryz.lays157 (by kernel_rfl) (by kernel_rfl) s w hs hascii htab
end Go.Proofs
