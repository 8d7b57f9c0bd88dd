/- Facts on the types of the program: read off its tables. Printed by a program. -/
import Derived.Test.YtaolapgdgdmapaaGreatDoorRows
import Derived.Test.YtaolapgdgdmapaaGreatDoorMb
namespace Go.Proofs.YtaolapgdgdmapaaGreatDoor

theorem mixed : Tryz.prog.follows .mixedOrders = true := by kernel_rfl
theorem tyS3 : tyS Tryz.prog 3 = some (false, 1) := by kernel_rfl
theorem tyS4 : tyS Tryz.prog 4 = some (false, 1) := by kernel_rfl
theorem tyS9 : tyS Tryz.prog 9 = some (false, 1) := by kernel_rfl
theorem tyS22 : tyS Tryz.prog 22 = some (false, 1) := by kernel_rfl
theorem tyS26 : tyS Tryz.prog 26 = some (false, 1) := by kernel_rfl
theorem tyS27 : tyS Tryz.prog 27 = some (false, 1) := by kernel_rfl
theorem tyS29 : tyS Tryz.prog 29 = some (true, 2) := by kernel_rfl
theorem tyS31 : tyS Tryz.prog 31 = some (false, 1) := by kernel_rfl
theorem tyS32 : tyS Tryz.prog 32 = some (false, 1) := by kernel_rfl
theorem tyS40 : tyS Tryz.prog 40 = some (true, 5) := by kernel_rfl
theorem tyS60 : tyS Tryz.prog 60 = some (true, 2) := by kernel_rfl
theorem tyS61 : tyS Tryz.prog 61 = some (false, 1) := by kernel_rfl
theorem tyS62 : tyS Tryz.prog 62 = some (false, 1) := by kernel_rfl
theorem tyS64 : tyS Tryz.prog 64 = some (true, 8) := by kernel_rfl
theorem tyS70 : tyS Tryz.prog 70 = some (true, 4) := by kernel_rfl
theorem tyS89 : tyS Tryz.prog 89 = some (true, 2) := by kernel_rfl
theorem tyS92 : tyS Tryz.prog 92 = some (true, 2) := by kernel_rfl
theorem tyS107 : tyS Tryz.prog 107 = some (false, 1) := by kernel_rfl
theorem tyS108 : tyS Tryz.prog 108 = some (false, 1) := by kernel_rfl
theorem tyS113 : tyS Tryz.prog 113 = some (true, 2) := by kernel_rfl
theorem tyP25 : tyP Tryz.prog 25 = some [(0, 1), (1, 1)] := by kernel_rfl
theorem tyP29 : tyP Tryz.prog 29 = some [(0, 1), (1, 1)] := by kernel_rfl
theorem tyP40 : tyP Tryz.prog 40 = some [(0, 1), (1, 1), (2, 1), (3, 1), (4, 1)] := by kernel_rfl
theorem tyP60 : tyP Tryz.prog 60 = some [(0, 1), (1, 1)] := by kernel_rfl
theorem tyP64 : tyP Tryz.prog 64 = some [(0, 1), (1, 1), (2, 1), (3, 1), (4, 1), (5, 1), (6, 1), (7, 1)] := by kernel_rfl
theorem tyP70 : tyP Tryz.prog 70 = some [(0, 1), (1, 1), (2, 1), (3, 1)] := by kernel_rfl
theorem tyP89 : tyP Tryz.prog 89 = some [(0, 1), (1, 1)] := by kernel_rfl
theorem tyP92 : tyP Tryz.prog 92 = some [(0, 1), (1, 1)] := by kernel_rfl
theorem tyP110 : tyP Tryz.prog 110 = some [(0, 1), (1, 1)] := by kernel_rfl
theorem tyP113 : tyP Tryz.prog 113 = some [(0, 1), (1, 1)] := by kernel_rfl
theorem tyZ9 : tyZ Tryz.prog 9 = some [.string ⟨#[]⟩] := by kernel_rfl
theorem tyZ25 : tyZ Tryz.prog 25 = some [.slice none 0 0, .int .i64 0] := by kernel_rfl
theorem tyZ29 : tyZ Tryz.prog 29 = some [.slice none 0 0, .slice none 0 0] := by kernel_rfl
theorem tyZ40 : tyZ Tryz.prog 40 = some [.int .i64 0, .string ⟨#[]⟩, .string ⟨#[]⟩, .int .i64 0, .string ⟨#[]⟩] := by kernel_rfl
theorem tyZ60 : tyZ Tryz.prog 60 = some [.string ⟨#[]⟩, .string ⟨#[]⟩] := by kernel_rfl
theorem tyZ64 : tyZ Tryz.prog 64 = some [.string ⟨#[]⟩, .string ⟨#[]⟩, .int .i64 0, .int .i64 0, .slice none 0 0, .int .i64 0, .int .i64 0, .bool false] := by kernel_rfl
theorem tyZ70 : tyZ Tryz.prog 70 = some [.int .i64 0, .string ⟨#[]⟩, .int .i64 0, .int .i64 0] := by kernel_rfl
theorem tyZ76 : tyZ Tryz.prog 76 = some [.slice none 0 0, .slice none 0 0] := by kernel_rfl
theorem tyZ89 : tyZ Tryz.prog 89 = some [.string ⟨#[]⟩, .slice none 0 0] := by kernel_rfl
theorem tyZ92 : tyZ Tryz.prog 92 = some [.int .i64 0, .int .i64 0] := by kernel_rfl
theorem tyZ110 : tyZ Tryz.prog 110 = some [.map none, .map none] := by kernel_rfl
theorem tyZ113 : tyZ Tryz.prog 113 = some [.string ⟨#[]⟩, .string ⟨#[]⟩] := by kernel_rfl
theorem tyF25_0 : tyF Tryz.prog 25 0 = some (0, 22) := by kernel_rfl
theorem tyF25_1 : tyF Tryz.prog 25 1 = some (1, 3) := by kernel_rfl
theorem tyF29_0 : tyF Tryz.prog 29 0 = some (0, 26) := by kernel_rfl
theorem tyF29_1 : tyF Tryz.prog 29 1 = some (1, 27) := by kernel_rfl
theorem tyF40_0 : tyF Tryz.prog 40 0 = some (0, 3) := by kernel_rfl
theorem tyF40_1 : tyF Tryz.prog 40 1 = some (1, 9) := by kernel_rfl
theorem tyF40_2 : tyF Tryz.prog 40 2 = some (2, 9) := by kernel_rfl
theorem tyF40_3 : tyF Tryz.prog 40 3 = some (3, 3) := by kernel_rfl
theorem tyF40_4 : tyF Tryz.prog 40 4 = some (4, 9) := by kernel_rfl
theorem tyF60_0 : tyF Tryz.prog 60 0 = some (0, 9) := by kernel_rfl
theorem tyF60_1 : tyF Tryz.prog 60 1 = some (1, 9) := by kernel_rfl
theorem tyF64_0 : tyF Tryz.prog 64 0 = some (0, 9) := by kernel_rfl
theorem tyF64_1 : tyF Tryz.prog 64 1 = some (1, 9) := by kernel_rfl
theorem tyF64_2 : tyF Tryz.prog 64 2 = some (2, 3) := by kernel_rfl
theorem tyF64_3 : tyF Tryz.prog 64 3 = some (3, 3) := by kernel_rfl
theorem tyF64_4 : tyF Tryz.prog 64 4 = some (4, 62) := by kernel_rfl
theorem tyF64_5 : tyF Tryz.prog 64 5 = some (5, 3) := by kernel_rfl
theorem tyF64_6 : tyF Tryz.prog 64 6 = some (6, 3) := by kernel_rfl
theorem tyF64_7 : tyF Tryz.prog 64 7 = some (7, 4) := by kernel_rfl
theorem tyF70_0 : tyF Tryz.prog 70 0 = some (0, 3) := by kernel_rfl
theorem tyF70_1 : tyF Tryz.prog 70 1 = some (1, 9) := by kernel_rfl
theorem tyF70_2 : tyF Tryz.prog 70 2 = some (2, 3) := by kernel_rfl
theorem tyF70_3 : tyF Tryz.prog 70 3 = some (3, 3) := by kernel_rfl
theorem tyF89_0 : tyF Tryz.prog 89 0 = some (0, 9) := by kernel_rfl
theorem tyF89_1 : tyF Tryz.prog 89 1 = some (1, 61) := by kernel_rfl
theorem tyF92_0 : tyF Tryz.prog 92 0 = some (0, 3) := by kernel_rfl
theorem tyF92_1 : tyF Tryz.prog 92 1 = some (1, 3) := by kernel_rfl
theorem tyF110_0 : tyF Tryz.prog 110 0 = some (0, 107) := by kernel_rfl
theorem tyF110_1 : tyF Tryz.prog 110 1 = some (1, 108) := by kernel_rfl
theorem tyE22 : tyE Tryz.prog 22 = some (3, 1) := by kernel_rfl
theorem tyL22 : Elem Tryz.prog 22 3 1 8 := Elem.mk (z := .int .i64 0) (by kernel_rfl) (by kernel_rfl) rfl (by decide)
theorem tyE26 : tyE Tryz.prog 26 = some (89, 2) := by kernel_rfl
theorem tyL26 : Elem Tryz.prog 26 89 2 40 := Elem.mk (z := .agg #[.string ⟨#[]⟩, .slice none 0 0]) (by kernel_rfl) (by kernel_rfl) rfl (by decide)
theorem tyE27 : tyE Tryz.prog 27 = some (64, 8) := by kernel_rfl
theorem tyL27 : Elem Tryz.prog 27 64 8 96 := Elem.mk (z := .agg #[.string ⟨#[]⟩, .string ⟨#[]⟩, .int .i64 0, .int .i64 0, .slice none 0 0, .int .i64 0, .int .i64 0, .bool false]) (by kernel_rfl) (by kernel_rfl) rfl (by decide)
theorem tyE30 : tyE Tryz.prog 30 = some (60, 2) := by kernel_rfl
theorem tyL30 : Elem Tryz.prog 30 60 2 32 := Elem.mk (z := .agg #[.string ⟨#[]⟩, .string ⟨#[]⟩]) (by kernel_rfl) (by kernel_rfl) rfl (by decide)
theorem tyE31 : tyE Tryz.prog 31 = some (40, 5) := by kernel_rfl
theorem tyL31 : Elem Tryz.prog 31 40 5 64 := Elem.mk (z := .agg #[.int .i64 0, .string ⟨#[]⟩, .string ⟨#[]⟩, .int .i64 0, .string ⟨#[]⟩]) (by kernel_rfl) (by kernel_rfl) rfl (by decide)
theorem tyE61 : tyE Tryz.prog 61 = some (9, 1) := by kernel_rfl
theorem tyL61 : Elem Tryz.prog 61 9 1 16 := Elem.mk (z := .string ⟨#[]⟩) (by kernel_rfl) (by kernel_rfl) rfl (by decide)
theorem tyE62 : tyE Tryz.prog 62 = some (92, 2) := by kernel_rfl
theorem tyL62 : Elem Tryz.prog 62 92 2 16 := Elem.mk (z := .agg #[.int .i64 0, .int .i64 0]) (by kernel_rfl) (by kernel_rfl) rfl (by decide)
theorem tyE66 : tyE Tryz.prog 66 = some (70, 4) := by kernel_rfl
theorem tyL66 : Elem Tryz.prog 66 70 4 40 := Elem.mk (z := .agg #[.int .i64 0, .string ⟨#[]⟩, .int .i64 0, .int .i64 0]) (by kernel_rfl) (by kernel_rfl) rfl (by decide)
theorem tyE83 : tyE Tryz.prog 83 = some (32, 1) := by kernel_rfl
theorem tyL83 : Elem Tryz.prog 83 32 1 8 := Elem.mk (z := .int .i64 0) (by kernel_rfl) (by kernel_rfl) rfl (by decide)
theorem tyE104 : tyE Tryz.prog 104 = some (31, 1) := by kernel_rfl
theorem tyL104 : Elem Tryz.prog 104 31 1 24 := Elem.mk (z := .slice none 0 0) (by kernel_rfl) (by kernel_rfl) rfl (by decide)
theorem tyU3 : Tryz.prog.underlying 3 = some (.int .i64) := by kernel_rfl
theorem tyU9 : Tryz.prog.underlying 9 = some .string := by kernel_rfl
theorem tyU22 : Tryz.prog.underlying 22 = some (.slice 3) := by kernel_rfl
theorem tyU26 : Tryz.prog.underlying 26 = some (.slice 89) := by kernel_rfl
theorem tyU27 : Tryz.prog.underlying 27 = some (.slice 64) := by kernel_rfl
theorem tyU30 : Tryz.prog.underlying 30 = some (.slice 60) := by kernel_rfl
theorem tyU31 : Tryz.prog.underlying 31 = some (.slice 40) := by kernel_rfl
theorem tyU61 : Tryz.prog.underlying 61 = some (.slice 9) := by kernel_rfl
theorem tyU62 : Tryz.prog.underlying 62 = some (.slice 92) := by kernel_rfl
theorem tyU66 : Tryz.prog.underlying 66 = some (.slice 70) := by kernel_rfl
theorem tyU83 : Tryz.prog.underlying 83 = some (.slice 32) := by kernel_rfl
theorem tyU104 : Tryz.prog.underlying 104 = some (.slice 31) := by kernel_rfl
theorem tyU130 : Tryz.prog.underlying 130 = some (.int .u64) := by kernel_rfl
theorem tyQ40 : tyQ Tryz.prog 40 = some [.int .i64, .string, .string, .int .i64, .string] := by kernel_rfl
end Go.Proofs.YtaolapgdgdmapaaGreatDoor
