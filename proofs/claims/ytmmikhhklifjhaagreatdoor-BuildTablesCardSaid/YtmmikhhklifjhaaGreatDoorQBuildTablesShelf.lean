/-
  DERIVED: THE SHELF's CONTRACTS AT THIS DUMP, IN PLAIN WORDS (tools/lay-plain.mjs out of 'TryzShelf.lean', which tools/lay-shelf.mjs wrote): THE SAME DECLARATIONS UNDER THE SAME NAMES: 'import', 'namespace', 'open', 'def', 'theorem' AND NOTHING ELSE: no command of the shelf's: FOR A HAND-IN. Each laying: the table of numbers ('.._ren') and one theorem, a field a fact of the dump's own or the kernel's comparison; each contract: ONE APPLICATION.
-/
import Derived.Shelf.Strings.Fields
import Derived.Test.YtmmikhhklifjhaaGreatDoorProg
namespace Go.Proofs
open Go.Shelf
def Tryz.lays157_ren : Go.Shelf.Ren := ⟨fun | 157 => 160 | 229 => 177 | 199 => 178 | 261 => 191 | 311 => 201 | 312 => 202 | n => n, fun | 9 => 9 | 31 => 47 | 3 => 3 | 5 => 5 | 4 => 4 | 119 => 165 | 0 => 0 | 40 => 167 | 152 => 180 | 21 => 21 | 154 => 182 | 51 => 183 | 141 => 185 | 196 => 201 | 193 => 198 | 198 => 204 | 49 => 202 | 194 => 199 | 201 => 207 | 226 => 212 | 46 => 170 | 227 => 213 | n => n, fun | 0 => 0 | 6 => 1 | n => n⟩
theorem Tryz.lays157 : Go.Proofs.Lays.n157 Tryz.prog Tryz.lays157_ren := {
  mixed := by kernel_rfl
  f157 := Tryz.func160.trans (congrArg some (by kernel_rfl))
  f199 := Tryz.func178.trans (congrArg some (by kernel_rfl))
  f229 := Tryz.func177.trans (congrArg some (by kernel_rfl))
  f261 := Tryz.func191.trans (congrArg some (by kernel_rfl))
  f311 := Tryz.func201.trans (congrArg some (by kernel_rfl))
  f312 := Tryz.func202.trans (congrArg some (by kernel_rfl))
  t0 := Tryz.underlying0
  a0 := Tryz.isAgg0
  z0 := Tryz.sizeOf0
  v0 := Tryz.zeroValue0
  t3 := Tryz.underlying3
  a3 := Tryz.isAgg3
  z3 := Tryz.sizeOf3
  v3 := Tryz.zeroValue3
  t4 := Tryz.underlying4
  a4 := Tryz.isAgg4
  z4 := Tryz.sizeOf4
  v4 := Tryz.zeroValue4
  t5 := Tryz.underlying5
  a5 := Tryz.isAgg5
  z5 := Tryz.sizeOf5
  v5 := Tryz.zeroValue5
  t9 := Tryz.underlying9
  a9 := Tryz.isAgg9
  z9 := Tryz.sizeOf9
  v9 := Tryz.zeroValue9
  t21 := Tryz.underlying21
  a21 := Tryz.isAgg21
  z21 := Tryz.sizeOf21
  v21 := Tryz.zeroValue21
  t31 := Tryz.underlying47
  a31 := Tryz.isAgg47
  z31 := Tryz.sizeOf47
  v31 := Tryz.zeroValue47
  t40 := Tryz.underlying167
  a40 := Tryz.isAgg167
  z40 := Tryz.sizeOf167
  v40 := Tryz.zeroValue167
  t46 := Tryz.underlying170
  a46 := Tryz.isAgg170
  z46 := Tryz.sizeOf170
  v46 := Tryz.zeroValue170
  t49 := Tryz.underlying202
  a49 := Tryz.isAgg202
  z49 := Tryz.sizeOf202
  v49 := Tryz.zeroValue202
  t51 := Tryz.underlying183
  a51 := Tryz.isAgg183
  z51 := Tryz.sizeOf183
  v51 := Tryz.zeroValue183
  t119 := Tryz.underlying165
  a119 := Tryz.isAgg165
  z119 := Tryz.sizeOf165
  t141 := Tryz.underlying185
  a141 := Tryz.isAgg185
  z141 := Tryz.sizeOf185
  v141 := Tryz.zeroValue185
  t152 := Tryz.underlying180
  a152 := Tryz.isAgg180
  z152 := Tryz.sizeOf180
  v152 := Tryz.zeroValue180
  t154 := Tryz.underlying182
  a154 := Tryz.isAgg182
  z154 := Tryz.sizeOf182
  v154 := Tryz.zeroValue182
  t193 := Tryz.underlying198
  a193 := Tryz.isAgg198
  z193 := Tryz.sizeOf198
  v193 := Tryz.zeroValue198
  t194 := Tryz.underlying199
  a194 := Tryz.isAgg199
  z194 := Tryz.sizeOf199
  v194 := Tryz.zeroValue199
  t196 := Tryz.underlying201
  a196 := Tryz.isAgg201
  z196 := Tryz.sizeOf201
  v196 := Tryz.zeroValue201
  t198 := Tryz.underlying204
  a198 := Tryz.isAgg204
  z198 := Tryz.sizeOf204
  v198 := Tryz.zeroValue204
  t201 := Tryz.underlying207
  a201 := Tryz.isAgg207
  z201 := Tryz.sizeOf207
  v201 := Tryz.zeroValue207
  t226 := Tryz.underlying212
  a226 := Tryz.isAgg212
  z226 := Tryz.sizeOf212
  v226 := Tryz.zeroValue212
  t227 := Tryz.underlying213
  a227 := Tryz.isAgg213
  z227 := Tryz.sizeOf213
  v227 := Tryz.zeroValue213
  g0 := by kernel_rfl
  g6 := by kernel_rfl }
open Go.RowKit Go.Lib in
/-- strings.Fields, the table by 'Lib.TabIs' (as strings.TrimSpace's contract). 'hg': the table's number, by its name: at a dump 'by kernel_rfl'. (LAID: no walk: one application.) -/
theorem Tryz.strings_Fields (s : ByteArray) (w : World) (hs : s.size < 4294967281) (hascii : ∀ (j : Nat) b, s.data.toList[j]? = some b → b.toNat < 128) (htab : Lib.TabIs Tryz.prog w "strings.asciiSpace" .u8 Lib.asciiSpaceTab) :
    Calls Tryz.prog 160 #[.string s] w fun e w' =>
      e = .returned (.slice (some ⟨w.heap.size, 0, none⟩) (Lib.fields s.data.toList).length (Lib.fields s.data.toList).length) ∧ w' = w.alloc (.cells ((Lib.fields s.data.toList).map fun l => Value.string ⟨l.toArray⟩).toArray 9) := Any.strings_Fields Tryz.lays157 (by kernel_rfl) (by kernel_rfl) s w hs hascii htab
end Go.Proofs
