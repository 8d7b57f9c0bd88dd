/- Facts on the types of the program: read off its tables. Printed by a program. -/
import Derived.Test.YtloinbpihpcblaaGreatDoorRows
import Derived.Test.YtloinbpihpcblaaGreatDoorMb
namespace Go.Proofs.YtloinbpihpcblaaGreatDoor

theorem mixed : Tryz.prog.follows .mixedOrders = true := by kernel_rfl
theorem tyS3 : tyS Tryz.prog 3 = some (false, 1) := by kernel_rfl
theorem tyS4 : tyS Tryz.prog 4 = some (false, 1) := by kernel_rfl
theorem tyS5 : tyS Tryz.prog 5 = some (false, 1) := by kernel_rfl
theorem tyS9 : tyS Tryz.prog 9 = some (false, 1) := by kernel_rfl
theorem tyS22 : tyS Tryz.prog 22 = some (false, 1) := by kernel_rfl
theorem tyS28 : tyS Tryz.prog 28 = some (false, 1) := by kernel_rfl
theorem tyS29 : tyS Tryz.prog 29 = some (false, 1) := by kernel_rfl
theorem tyS31 : tyS Tryz.prog 31 = some (true, 2) := by kernel_rfl
theorem tyS46 : tyS Tryz.prog 46 = some (true, 5) := by kernel_rfl
theorem tyS55 : tyS Tryz.prog 55 = some (false, 1) := by kernel_rfl
theorem tyS56 : tyS Tryz.prog 56 = some (false, 1) := by kernel_rfl
theorem tyS58 : tyS Tryz.prog 58 = some (true, 8) := by kernel_rfl
theorem tyS64 : tyS Tryz.prog 64 = some (true, 4) := by kernel_rfl
theorem tyS71 : tyS Tryz.prog 71 = some (true, 2) := by kernel_rfl
theorem tyS74 : tyS Tryz.prog 74 = some (true, 2) := by kernel_rfl
theorem tyS76 : tyS Tryz.prog 76 = some (false, 1) := by kernel_rfl
theorem tyP25 : tyP Tryz.prog 25 = some [(0, 1), (1, 1)] := by kernel_rfl
theorem tyP31 : tyP Tryz.prog 31 = some [(0, 1), (1, 1)] := by kernel_rfl
theorem tyP46 : tyP Tryz.prog 46 = some [(0, 1), (1, 1), (2, 1), (3, 1), (4, 1)] := by kernel_rfl
theorem tyP53 : tyP Tryz.prog 53 = some [(0, 1), (1, 1)] := by kernel_rfl
theorem tyP58 : tyP Tryz.prog 58 = some [(0, 1), (1, 1), (2, 1), (3, 1), (4, 1), (5, 1), (6, 1), (7, 1)] := by kernel_rfl
theorem tyP64 : tyP Tryz.prog 64 = some [(0, 1), (1, 1), (2, 1), (3, 1)] := by kernel_rfl
theorem tyP71 : tyP Tryz.prog 71 = some [(0, 1), (1, 1)] := by kernel_rfl
theorem tyP74 : tyP Tryz.prog 74 = some [(0, 1), (1, 1)] := by kernel_rfl
theorem tyZ9 : tyZ Tryz.prog 9 = some [.string ⟨#[]⟩] := by kernel_rfl
theorem tyZ25 : tyZ Tryz.prog 25 = some [.slice none 0 0, .int .i64 0] := by kernel_rfl
theorem tyZ31 : tyZ Tryz.prog 31 = some [.slice none 0 0, .slice none 0 0] := by kernel_rfl
theorem tyZ46 : tyZ Tryz.prog 46 = some [.int .i64 0, .string ⟨#[]⟩, .string ⟨#[]⟩, .int .i64 0, .string ⟨#[]⟩] := by kernel_rfl
theorem tyZ53 : tyZ Tryz.prog 53 = some [.string ⟨#[]⟩, .string ⟨#[]⟩] := by kernel_rfl
theorem tyZ58 : tyZ Tryz.prog 58 = some [.string ⟨#[]⟩, .string ⟨#[]⟩, .int .i64 0, .int .i64 0, .slice none 0 0, .int .i64 0, .int .i64 0, .bool false] := by kernel_rfl
theorem tyZ64 : tyZ Tryz.prog 64 = some [.int .i64 0, .string ⟨#[]⟩, .int .i64 0, .int .i64 0] := by kernel_rfl
theorem tyZ71 : tyZ Tryz.prog 71 = some [.int .i64 0, .int .i64 0] := by kernel_rfl
theorem tyZ74 : tyZ Tryz.prog 74 = some [.string ⟨#[]⟩, .slice none 0 0] := by kernel_rfl
theorem tyZ78 : tyZ Tryz.prog 78 = some [.pointer none, .slice none 0 0] := by kernel_rfl
theorem tyF25_0 : tyF Tryz.prog 25 0 = some (0, 22) := by kernel_rfl
theorem tyF25_1 : tyF Tryz.prog 25 1 = some (1, 3) := by kernel_rfl
theorem tyF31_0 : tyF Tryz.prog 31 0 = some (0, 28) := by kernel_rfl
theorem tyF31_1 : tyF Tryz.prog 31 1 = some (1, 29) := by kernel_rfl
theorem tyF46_0 : tyF Tryz.prog 46 0 = some (0, 3) := by kernel_rfl
theorem tyF46_1 : tyF Tryz.prog 46 1 = some (1, 9) := by kernel_rfl
theorem tyF46_2 : tyF Tryz.prog 46 2 = some (2, 9) := by kernel_rfl
theorem tyF46_3 : tyF Tryz.prog 46 3 = some (3, 3) := by kernel_rfl
theorem tyF46_4 : tyF Tryz.prog 46 4 = some (4, 9) := by kernel_rfl
theorem tyF53_0 : tyF Tryz.prog 53 0 = some (0, 9) := by kernel_rfl
theorem tyF58_0 : tyF Tryz.prog 58 0 = some (0, 9) := by kernel_rfl
theorem tyF58_1 : tyF Tryz.prog 58 1 = some (1, 9) := by kernel_rfl
theorem tyF58_2 : tyF Tryz.prog 58 2 = some (2, 3) := by kernel_rfl
theorem tyF58_3 : tyF Tryz.prog 58 3 = some (3, 3) := by kernel_rfl
theorem tyF58_4 : tyF Tryz.prog 58 4 = some (4, 56) := by kernel_rfl
theorem tyF58_5 : tyF Tryz.prog 58 5 = some (5, 3) := by kernel_rfl
theorem tyF58_6 : tyF Tryz.prog 58 6 = some (6, 3) := by kernel_rfl
theorem tyF58_7 : tyF Tryz.prog 58 7 = some (7, 4) := by kernel_rfl
theorem tyF64_0 : tyF Tryz.prog 64 0 = some (0, 3) := by kernel_rfl
theorem tyF64_1 : tyF Tryz.prog 64 1 = some (1, 9) := by kernel_rfl
theorem tyF64_2 : tyF Tryz.prog 64 2 = some (2, 3) := by kernel_rfl
theorem tyF64_3 : tyF Tryz.prog 64 3 = some (3, 3) := by kernel_rfl
theorem tyF71_0 : tyF Tryz.prog 71 0 = some (0, 3) := by kernel_rfl
theorem tyF71_1 : tyF Tryz.prog 71 1 = some (1, 3) := by kernel_rfl
theorem tyF74_0 : tyF Tryz.prog 74 0 = some (0, 9) := by kernel_rfl
theorem tyF74_1 : tyF Tryz.prog 74 1 = some (1, 55) := by kernel_rfl
theorem tyF78_1 : tyF Tryz.prog 78 1 = some (1, 76) := by kernel_rfl
theorem tyE22 : tyE Tryz.prog 22 = some (3, 1) := by kernel_rfl
theorem tyL22 : Elem Tryz.prog 22 3 1 8 := Elem.mk (z := .int .i64 0) (by kernel_rfl) (by kernel_rfl) rfl (by decide)
theorem tyE26 : tyE Tryz.prog 26 = some (46, 5) := by kernel_rfl
theorem tyL26 : Elem Tryz.prog 26 46 5 64 := Elem.mk (z := .agg #[.int .i64 0, .string ⟨#[]⟩, .string ⟨#[]⟩, .int .i64 0, .string ⟨#[]⟩]) (by kernel_rfl) (by kernel_rfl) rfl (by decide)
theorem tyE28 : tyE Tryz.prog 28 = some (74, 2) := by kernel_rfl
theorem tyL28 : Elem Tryz.prog 28 74 2 40 := Elem.mk (z := .agg #[.string ⟨#[]⟩, .slice none 0 0]) (by kernel_rfl) (by kernel_rfl) rfl (by decide)
theorem tyE29 : tyE Tryz.prog 29 = some (58, 8) := by kernel_rfl
theorem tyL29 : Elem Tryz.prog 29 58 8 96 := Elem.mk (z := .agg #[.string ⟨#[]⟩, .string ⟨#[]⟩, .int .i64 0, .int .i64 0, .slice none 0 0, .int .i64 0, .int .i64 0, .bool false]) (by kernel_rfl) (by kernel_rfl) rfl (by decide)
theorem tyE33 : tyE Tryz.prog 33 = some (53, 2) := by kernel_rfl
theorem tyL33 : Elem Tryz.prog 33 53 2 32 := Elem.mk (z := .agg #[.string ⟨#[]⟩, .string ⟨#[]⟩]) (by kernel_rfl) (by kernel_rfl) rfl (by decide)
theorem tyE55 : tyE Tryz.prog 55 = some (9, 1) := by kernel_rfl
theorem tyL55 : Elem Tryz.prog 55 9 1 16 := Elem.mk (z := .string ⟨#[]⟩) (by kernel_rfl) (by kernel_rfl) rfl (by decide)
theorem tyE56 : tyE Tryz.prog 56 = some (71, 2) := by kernel_rfl
theorem tyL56 : Elem Tryz.prog 56 71 2 16 := Elem.mk (z := .agg #[.int .i64 0, .int .i64 0]) (by kernel_rfl) (by kernel_rfl) rfl (by decide)
theorem tyE60 : tyE Tryz.prog 60 = some (64, 4) := by kernel_rfl
theorem tyL60 : Elem Tryz.prog 60 64 4 40 := Elem.mk (z := .agg #[.int .i64 0, .string ⟨#[]⟩, .int .i64 0, .int .i64 0]) (by kernel_rfl) (by kernel_rfl) rfl (by decide)
theorem tyE76 : tyE Tryz.prog 76 = some (5, 1) := by kernel_rfl
theorem tyL76 : Elem Tryz.prog 76 5 1 1 := Elem.mk (z := .int .u8 0) (by kernel_rfl) (by kernel_rfl) rfl (by decide)
theorem tyU2 : Tryz.prog.underlying 2 = some (.int .i64) := by kernel_rfl
theorem tyU3 : Tryz.prog.underlying 3 = some (.int .i64) := by kernel_rfl
theorem tyU5 : Tryz.prog.underlying 5 = some (.int .u8) := by kernel_rfl
theorem tyU9 : Tryz.prog.underlying 9 = some .string := by kernel_rfl
theorem tyU21 : Tryz.prog.underlying 21 = some (.int .i32) := by kernel_rfl
theorem tyU22 : Tryz.prog.underlying 22 = some (.slice 3) := by kernel_rfl
theorem tyU26 : Tryz.prog.underlying 26 = some (.slice 46) := by kernel_rfl
theorem tyU28 : Tryz.prog.underlying 28 = some (.slice 74) := by kernel_rfl
theorem tyU29 : Tryz.prog.underlying 29 = some (.slice 58) := by kernel_rfl
theorem tyU33 : Tryz.prog.underlying 33 = some (.slice 53) := by kernel_rfl
theorem tyU55 : Tryz.prog.underlying 55 = some (.slice 9) := by kernel_rfl
theorem tyU56 : Tryz.prog.underlying 56 = some (.slice 71) := by kernel_rfl
theorem tyU60 : Tryz.prog.underlying 60 = some (.slice 64) := by kernel_rfl
theorem tyU76 : Tryz.prog.underlying 76 = some (.slice 5) := by kernel_rfl
theorem tyU133 : Tryz.prog.underlying 133 = some (.int .u64) := by kernel_rfl
theorem tyU139 : Tryz.prog.underlying 139 = some (.int .u64) := by kernel_rfl
theorem tyQ46 : tyQ Tryz.prog 46 = some [.int .i64, .string, .string, .int .i64, .string] := by kernel_rfl
end Go.Proofs.YtloinbpihpcblaaGreatDoor
