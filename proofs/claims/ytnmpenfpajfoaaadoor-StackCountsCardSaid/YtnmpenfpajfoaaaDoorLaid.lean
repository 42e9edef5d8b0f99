/-
  From what a row lists as laid to what the walks ask.
-/
import Derived.Test.YtnmpenfpajfoaaaDoorFields
import Derived.Test.YtnmpenfpajfoaaaDoorRows
import Derived.MakeChecks
import Derived.Lib.LaidTab
import Derived.LaidSub
namespace Go.Proofs.YtnmpenfpajfoaaaDoor
open Go.RowKit

theorem sp_of_laid {W : World} (h : laidMetH Tryd.prog [("unicode.White_Space", Rows.laid_unicode_White_Space), ("strings.asciiSpace", Rows.laid_strings_asciiSpace)] W) : Sp W := by
  rw [MakeChecks.laidMetH_plain _ _ _ (by kernel_rfl)] at h
  have e : (Rows.laid_strings_asciiSpace : DataW Unit) = Lib.tabData .u8 Lib.asciiSpaceTab := by kernel_rfl
  rw [e] at h
  have h2 := h.filter fun x => x.1 == "strings.asciiSpace"
  have h3 : laidMet Tryd.prog [("strings.asciiSpace", Lib.tabData .u8 Lib.asciiSpaceTab)] W := h2
  exact Lib.tabIs_of_head (rest := []) (g := 0) (t := 44) (e := 5) (n := 256) (by kernel_rfl) (by kernel_rfl) Tryd.underlying44 Tryd.underlying5 (by kernel_rfl) (by kernel_rfl) h3

end Go.Proofs.YtnmpenfpajfoaaaDoor
