/- The table of trailing zeros, the table of the powers of ten and the table of blanks (rows whose variables of errors are open). -/
import Derived.Test.YtkldmhhbbceaoabGreatDoorTab
import Derived.Lib.LaidTab
import Derived.Lib.Space
namespace Go.Proofs.YtkldmhhbbceaoabGreatDoor
set_option linter.unusedVariables false
set_option maxRecDepth 20000
theorem x0j {l : List (String × DataW Unit)} {W : World} (h3 : (l.filter fun x => x.1 == "internal/strconv.uint64pow10") = [("internal/strconv.uint64pow10", Rows.laid_internal_strconv_uint64pow10)]) (h : laidMetH Tryz.prog l W) : Lib.TabIs Tryz.prog W "internal/strconv.uint64pow10" .u64 Lib.pow10Tab := by
  have h := h.filter (fun x => x.1 == "internal/strconv.uint64pow10")
  rw [h3, MakeChecks.laidMetH_plain _ _ _ (by kernel_rfl)] at h
  exact Lib.tabIs_of_head (g := 10) (t := 258) (e := 129) (n := Lib.pow10Tab.length) (by kernel_rfl) (by kernel_rfl) (by kernel_rfl) (by kernel_rfl) (by kernel_rfl) (by kernel_rfl) h
theorem x5t {l : List (String × DataW Unit)} {W : World} (h3 : (l.filter fun x => x.1 == "strings.asciiSpace") = [("strings.asciiSpace", Rows.laid_strings_asciiSpace)]) (h : laidMetH Tryz.prog l W) : Lib.TabIs Tryz.prog W "strings.asciiSpace" .u8 Lib.asciiSpaceTab := by
  have h := h.filter (fun x => x.1 == "strings.asciiSpace")
  rw [h3, MakeChecks.laidMetH_plain _ _ _ (by kernel_rfl)] at h
  exact Lib.tabIs_of_head (g := 0) (t := 156) (e := 5) (n := Lib.asciiSpaceTab.length) (by kernel_rfl) (by kernel_rfl) (by kernel_rfl) (by kernel_rfl) (by kernel_rfl) (by kernel_rfl) h
theorem x4y {l : List (String × DataW Unit)} {W : World} (h : laidMetH Tryz.prog l W)
    (h3 : (l.filter fun x => x.1 == "internal/strconv.uint64pow10") = [("internal/strconv.uint64pow10", Rows.laid_internal_strconv_uint64pow10)]) (h0 : (l.filter fun x => x.1 == "math/bits.deBruijn64tab") = [("math/bits.deBruijn64tab", Rows.laid_math_bits_deBruijn64tab)]) (h4 : (l.filter fun x => x.1 == "strings.asciiSpace") = [("strings.asciiSpace", Rows.laid_strings_asciiSpace)]) : GlP W :=
  ⟨y78 h0 h, x0j h3 h, x5t h4 h, trivial⟩
end Go.Proofs.YtkldmhhbbceaoabGreatDoor
