/- The table of trailing zeros, the two variables of errors and the table of the powers of ten. -/
import Derived.Test.YtahcnngcpjkpgabGreatDoorErl
import Derived.Test.YtahcnngcpjkpgabGreatDoorTab
import Derived.Lib.LaidTab
namespace Go.Proofs.YtahcnngcpjkpgabGreatDoor
set_option linter.unusedVariables false
set_option maxRecDepth 20000
theorem w4i {l : List (String × DataW Unit)} {W : World} (h3 : (l.filter fun x => x.1 == "internal/strconv.uint64pow10") = [("internal/strconv.uint64pow10", Rows.laid_internal_strconv_uint64pow10)]) (h : laidMetH Tryz.prog l W) : Lib.TabIs Tryz.prog W "internal/strconv.uint64pow10" .u64 Lib.pow10Tab := by
  have h := h.filter (fun x => x.1 == "internal/strconv.uint64pow10")
  rw [h3, MakeChecks.laidMetH_plain _ _ _ (by kernel_rfl)] at h
  exact Lib.tabIs_of_head (g := 4) (t := 281) (e := 193) (n := Lib.pow10Tab.length) (by kernel_rfl) (by kernel_rfl) (by kernel_rfl) (by kernel_rfl) (by kernel_rfl) (by kernel_rfl) h
theorem v0b {l : List (String × DataW Unit)} {W : World} (h : laidMetH Tryz.prog l W)
    (h1 : (l.filter fun x => x.1 == "strconv.ErrRange") = [("strconv.ErrRange", Rows.laid_strconv_ErrRange)]) (h2 : (l.filter fun x => x.1 == "strconv.ErrSyntax") = [("strconv.ErrSyntax", Rows.laid_strconv_ErrSyntax)]) (h3 : (l.filter fun x => x.1 == "internal/strconv.uint64pow10") = [("internal/strconv.uint64pow10", Rows.laid_internal_strconv_uint64pow10)]) (h0 : (l.filter fun x => x.1 == "math/bits.deBruijn64tab") = [("math/bits.deBruijn64tab", Rows.laid_math_bits_deBruijn64tab)]) : GlP W :=
  ⟨w1e h0 h, x74 (t := 62) h1 (by kernel_rfl) (by kernel_rfl) (by kernel_rfl) (show Tryz.prog.underlying 62 = some (.interface (Tryz.prog.methodsAt 62)) by kernel_rfl) h,
   x74 (t := 62) h2 (by kernel_rfl) (by kernel_rfl) (by kernel_rfl) (show Tryz.prog.underlying 62 = some (.interface (Tryz.prog.methodsAt 62)) by kernel_rfl) h, w4i h3 h, trivial⟩
end Go.Proofs.YtahcnngcpjkpgabGreatDoor
