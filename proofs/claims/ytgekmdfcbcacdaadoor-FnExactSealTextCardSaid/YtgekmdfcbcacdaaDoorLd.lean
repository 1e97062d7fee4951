/- The tables that the door's rows list: the door's own heap holds them; and what a walk reads of them: the library's table of tens. -/
import Derived.Test.YtgekmdfcbcacdaaDoorRows
import Derived.Test.YtgekmdfcbcacdaaDoorHx6
import Derived.LaidMore
import Derived.LaidLaws
import Derived.MakeChecks
import Derived.Stop.LaidErr
import Derived.Lib.LaidTab
import Derived.ProofKit
namespace Go.Proofs.YtgekmdfcbcacdaaDoor.Ld
open Go Go.ChangeShapes Go.WideShapes Go.ChangeAt Go.RowKit
def laid3 : List (String × DataW Unit) := [("math/bits.deBruijn32tab", Rows.laid_math_bits_deBruijn32tab), ("math/bits.deBruijn64tab", Rows.laid_math_bits_deBruijn64tab), ("internal/strconv.uint64pow10", Rows.laid_internal_strconv_uint64pow10)]
theorem door_met (os : Os) (args : Array Value) : laidMetH Tryd.prog laid3 ((World.doorLaid Tryd.prog 72 os).forCall (fun _ _ => 0) ⟨#[], args, []⟩).memory :=
  laidMetH_of_parts3 (fuel := 8) (laidMet_of_run' 8 (by kernel_rfl) (by kernel_rfl)) (by kernel_rfl) (by kernel_rfl)
theorem gTens : Tryd.prog.globalNamed "internal/strconv.uint64pow10" = some 3 := by kernel_rfl
theorem tTens : (Tryd.prog.globals[3]?).map (·.type) = some 124 := by kernel_rfl
theorem isTens : (Rows.laid_internal_strconv_uint64pow10 : DataW Unit) = Lib.tabData .u64 Lib.pow10Tab := by kernel_rfl
theorem tens {W : World} (h : laidMetH Tryd.prog laid3 W) : Hp.Tens W := by
  rw [MakeChecks.laidMetH_plain _ _ _ (by kernel_rfl)] at h
  have h3 : laidMet Tryd.prog [("internal/strconv.uint64pow10", (Rows.laid_internal_strconv_uint64pow10 : DataW Unit))] W := laidMet.tail (laidMet.tail h)
  rw [isTens] at h3
  exact Lib.tabIs_of_head gTens tTens Tryd.underlying124 Tryd.underlying108 (by kernel_rfl) (by kernel_rfl) h3
end Go.Proofs.YtgekmdfcbcacdaaDoor.Ld
