/- Facts on the types of the program: read off its tables. Printed by a program. -/
import Derived.Test.YthgeeoecgneclaaGreatDoorRows
import Derived.Test.YthgeeoecgneclaaGreatDoorMb
namespace Go.Proofs.YthgeeoecgneclaaGreatDoor

theorem mixed : Tryz.prog.follows .mixedOrders = true := by kernel_rfl
theorem tyS3 : tyS Tryz.prog 3 = some (false, 1) := by kernel_rfl
theorem tyS4 : tyS Tryz.prog 4 = some (false, 1) := by kernel_rfl
theorem tyS5 : tyS Tryz.prog 5 = some (false, 1) := by kernel_rfl
theorem tyS9 : tyS Tryz.prog 9 = some (false, 1) := by kernel_rfl
theorem tyS21 : tyS Tryz.prog 21 = some (false, 1) := by kernel_rfl
theorem tyS22 : tyS Tryz.prog 22 = some (false, 1) := by kernel_rfl
theorem tyS25 : tyS Tryz.prog 25 = some (true, 2) := by kernel_rfl
theorem tyS26 : tyS Tryz.prog 26 = some (false, 1) := by kernel_rfl
theorem tyS32 : tyS Tryz.prog 32 = some (true, 2) := by kernel_rfl
theorem tyS34 : tyS Tryz.prog 34 = some (true, 12) := by kernel_rfl
theorem tyS52 : tyS Tryz.prog 52 = some (false, 1) := by kernel_rfl
theorem tyS63 : tyS Tryz.prog 63 = some (false, 1) := by kernel_rfl
theorem tyS75 : tyS Tryz.prog 75 = some (true, 3) := by kernel_rfl
theorem tyS83 : tyS Tryz.prog 83 = some (false, 1) := by kernel_rfl
theorem tyS86 : tyS Tryz.prog 86 = some (false, 1) := by kernel_rfl
theorem tyS87 : tyS Tryz.prog 87 = some (false, 1) := by kernel_rfl
theorem tyS89 : tyS Tryz.prog 89 = some (true, 2) := by kernel_rfl
theorem tyS109 : tyS Tryz.prog 109 = some (true, 256) := by kernel_rfl
theorem tyS125 : tyS Tryz.prog 125 = some (false, 1) := by kernel_rfl
theorem tyS128 : tyS Tryz.prog 128 = some (false, 1) := by kernel_rfl
theorem tyS145 : tyS Tryz.prog 145 = some (false, 1) := by kernel_rfl
theorem tyS146 : tyS Tryz.prog 146 = some (true, 24) := by kernel_rfl
theorem tyS158 : tyS Tryz.prog 158 = some (true, 3) := by kernel_rfl
theorem tyS162 : tyS Tryz.prog 162 = some (true, 2) := by kernel_rfl
theorem tyS169 : tyS Tryz.prog 169 = some (true, 65) := by kernel_rfl
theorem tyS172 : tyS Tryz.prog 172 = some (false, 1) := by kernel_rfl
theorem tyS174 : tyS Tryz.prog 174 = some (false, 1) := by kernel_rfl
theorem tyS176 : tyS Tryz.prog 176 = some (true, 2) := by kernel_rfl
theorem tyS181 : tyS Tryz.prog 181 = some (true, 1) := by kernel_rfl
theorem tyS183 : tyS Tryz.prog 183 = some (true, 3) := by kernel_rfl
theorem tyS185 : tyS Tryz.prog 185 = some (true, 5) := by kernel_rfl
theorem tyS196 : tyS Tryz.prog 196 = some (false, 1) := by kernel_rfl
theorem tyP25 : tyP Tryz.prog 25 = some [(0, 1), (1, 1)] := by kernel_rfl
theorem tyP32 : tyP Tryz.prog 32 = some [(0, 1), (1, 1)] := by kernel_rfl
theorem tyP34 : tyP Tryz.prog 34 = some [(0, 1), (1, 1), (2, 1), (3, 1), (4, 1), (5, 1), (6, 1), (7, 1), (8, 1), (9, 1), (10, 1), (11, 1)] := by kernel_rfl
theorem tyP75 : tyP Tryz.prog 75 = some [(0, 1), (1, 1), (2, 1)] := by kernel_rfl
theorem tyP89 : tyP Tryz.prog 89 = some [(0, 1), (1, 1)] := by kernel_rfl
theorem tyP158 : tyP Tryz.prog 158 = some [(0, 1), (1, 1), (2, 1)] := by kernel_rfl
theorem tyP162 : tyP Tryz.prog 162 = some [(0, 1), (1, 1)] := by kernel_rfl
theorem tyP176 : tyP Tryz.prog 176 = some [(0, 1), (1, 1)] := by kernel_rfl
theorem tyP181 : tyP Tryz.prog 181 = some [(0, 1)] := by kernel_rfl
theorem tyP185 : tyP Tryz.prog 185 = some [(0, 1), (1, 1), (2, 3)] := by kernel_rfl
theorem tyZ3 : tyZ Tryz.prog 3 = some [.int .i64 0] := by kernel_rfl
theorem tyZ5 : tyZ Tryz.prog 5 = some [.int .u8 0] := by kernel_rfl
theorem tyZ9 : tyZ Tryz.prog 9 = some [.string ⟨#[]⟩] := by kernel_rfl
theorem tyZ25 : tyZ Tryz.prog 25 = some [.slice none 0 0, .int .i64 0] := by kernel_rfl
theorem tyZ32 : tyZ Tryz.prog 32 = some [.string ⟨#[]⟩, .string ⟨#[]⟩] := by kernel_rfl
theorem tyZ34 : tyZ Tryz.prog 34 = some [.bool false, .bool false, .bool false, .bool false, .bool false, .bool false, .int .i64 0, .int .i64 0, .int .i64 0, .int .i64 0, .int .i64 0, .int .i64 0] := by kernel_rfl
theorem tyZ52 : tyZ Tryz.prog 52 = some [.pointer none] := by kernel_rfl
theorem tyZ63 : tyZ Tryz.prog 63 = some [.pointer none] := by kernel_rfl
theorem tyZ75 : tyZ Tryz.prog 75 = some [.int .i64 0, .slice none 0 0, .string ⟨#[]⟩] := by kernel_rfl
theorem tyZ89 : tyZ Tryz.prog 89 = some [.pointer none, .slice none 0 0] := by kernel_rfl
theorem tyZ146 : tyZ Tryz.prog 146 = some [.int .u8 0, .int .u8 0, .int .u8 0, .int .u8 0, .int .u8 0, .int .u8 0, .int .u8 0, .int .u8 0, .int .u8 0, .int .u8 0, .int .u8 0, .int .u8 0, .int .u8 0, .int .u8 0, .int .u8 0, .int .u8 0, .int .u8 0, .int .u8 0, .int .u8 0, .int .u8 0, .int .u8 0, .int .u8 0, .int .u8 0, .int .u8 0] := by kernel_rfl
theorem tyZ158 : tyZ Tryz.prog 158 = some [.string ⟨#[]⟩, .string ⟨#[]⟩, .nilIface] := by kernel_rfl
theorem tyZ162 : tyZ Tryz.prog 162 = some [.int .u8 0, .int .u8 0] := by kernel_rfl
theorem tyZ176 : tyZ Tryz.prog 176 = some [.int .u16 0, .int .u16 0] := by kernel_rfl
theorem tyZ181 : tyZ Tryz.prog 181 = some [.string ⟨#[]⟩] := by kernel_rfl
theorem tyZ185 : tyZ Tryz.prog 185 = some [.int .u32 0, .int .u32 0, .int .i32 0, .int .i32 0, .int .i32 0] := by kernel_rfl
theorem tyZ196 : tyZ Tryz.prog 196 = some [.int .u64 0] := by kernel_rfl
theorem tyF25_0 : tyF Tryz.prog 25 0 = some (0, 22) := by kernel_rfl
theorem tyF25_1 : tyF Tryz.prog 25 1 = some (1, 3) := by kernel_rfl
theorem tyF32_0 : tyF Tryz.prog 32 0 = some (0, 9) := by kernel_rfl
theorem tyF32_1 : tyF Tryz.prog 32 1 = some (1, 9) := by kernel_rfl
theorem tyF34_0 : tyF Tryz.prog 34 0 = some (0, 4) := by kernel_rfl
theorem tyF34_1 : tyF Tryz.prog 34 1 = some (1, 4) := by kernel_rfl
theorem tyF34_2 : tyF Tryz.prog 34 2 = some (2, 4) := by kernel_rfl
theorem tyF34_3 : tyF Tryz.prog 34 3 = some (3, 4) := by kernel_rfl
theorem tyF34_4 : tyF Tryz.prog 34 4 = some (4, 4) := by kernel_rfl
theorem tyF34_5 : tyF Tryz.prog 34 5 = some (5, 4) := by kernel_rfl
theorem tyF34_6 : tyF Tryz.prog 34 6 = some (6, 3) := by kernel_rfl
theorem tyF34_7 : tyF Tryz.prog 34 7 = some (7, 3) := by kernel_rfl
theorem tyF34_8 : tyF Tryz.prog 34 8 = some (8, 3) := by kernel_rfl
theorem tyF34_9 : tyF Tryz.prog 34 9 = some (9, 3) := by kernel_rfl
theorem tyF34_10 : tyF Tryz.prog 34 10 = some (10, 3) := by kernel_rfl
theorem tyF34_11 : tyF Tryz.prog 34 11 = some (11, 3) := by kernel_rfl
theorem tyF75_0 : tyF Tryz.prog 75 0 = some (0, 3) := by kernel_rfl
theorem tyF75_1 : tyF Tryz.prog 75 1 = some (1, 26) := by kernel_rfl
theorem tyF75_2 : tyF Tryz.prog 75 2 = some (2, 9) := by kernel_rfl
theorem tyF89_0 : tyF Tryz.prog 89 0 = some (0, 86) := by kernel_rfl
theorem tyF89_1 : tyF Tryz.prog 89 1 = some (1, 87) := by kernel_rfl
theorem tyF162_0 : tyF Tryz.prog 162 0 = some (0, 5) := by kernel_rfl
theorem tyF162_1 : tyF Tryz.prog 162 1 = some (1, 5) := by kernel_rfl
theorem tyF176_0 : tyF Tryz.prog 176 0 = some (0, 172) := by kernel_rfl
theorem tyF176_1 : tyF Tryz.prog 176 1 = some (1, 172) := by kernel_rfl
theorem tyF185_0 : tyF Tryz.prog 185 0 = some (0, 125) := by kernel_rfl
theorem tyF185_1 : tyF Tryz.prog 185 1 = some (1, 125) := by kernel_rfl
theorem tyF185_2 : tyF Tryz.prog 185 2 = some (2, 183) := by kernel_rfl
theorem tyE22 : tyE Tryz.prog 22 = some (3, 1) := by kernel_rfl
theorem tyL22 : Elem Tryz.prog 22 3 1 8 := Elem.mk (z := .int .i64 0) (by kernel_rfl) (by kernel_rfl) rfl (by decide)
theorem tyE26 : tyE Tryz.prog 26 = some (32, 2) := by kernel_rfl
theorem tyL26 : Elem Tryz.prog 26 32 2 32 := Elem.mk (z := .agg #[.string ⟨#[]⟩, .string ⟨#[]⟩]) (by kernel_rfl) (by kernel_rfl) rfl (by decide)
theorem tyE46 : tyE Tryz.prog 46 = some (9, 1) := by kernel_rfl
theorem tyL46 : Elem Tryz.prog 46 9 1 16 := Elem.mk (z := .string ⟨#[]⟩) (by kernel_rfl) (by kernel_rfl) rfl (by decide)
theorem tyE49 : tyE Tryz.prog 49 = some (52, 1) := by kernel_rfl
theorem tyL49 : Elem Tryz.prog 49 52 1 8 := Elem.mk (z := .pointer none) (by kernel_rfl) (by kernel_rfl) rfl (by decide)
theorem tyE64 : tyE Tryz.prog 64 = some (63, 1) := by kernel_rfl
theorem tyL64 : Elem Tryz.prog 64 63 1 8 := Elem.mk (z := .pointer none) (by kernel_rfl) (by kernel_rfl) rfl (by decide)
theorem tyE87 : tyE Tryz.prog 87 = some (5, 1) := by kernel_rfl
theorem tyL87 : Elem Tryz.prog 87 5 1 1 := Elem.mk (z := .int .u8 0) (by kernel_rfl) (by kernel_rfl) rfl (by decide)
theorem tyE145 : tyE Tryz.prog 145 = some (185, 5) := by kernel_rfl
theorem tyL145 : Elem Tryz.prog 145 185 5 20 := Elem.mk (z := .agg #[.int .u32 0, .int .u32 0, .int .i32 0, .int .i32 0, .int .i32 0]) (by kernel_rfl) (by kernel_rfl) rfl (by decide)
theorem tyE174 : tyE Tryz.prog 174 = some (176, 2) := by kernel_rfl
theorem tyL174 : Elem Tryz.prog 174 176 2 4 := Elem.mk (z := .agg #[.int .u16 0, .int .u16 0]) (by kernel_rfl) (by kernel_rfl) rfl (by decide)
theorem tyU2 : Tryz.prog.underlying 2 = some (.int .i64) := by kernel_rfl
theorem tyU3 : Tryz.prog.underlying 3 = some (.int .i64) := by kernel_rfl
theorem tyU4 : Tryz.prog.underlying 4 = some .bool := by kernel_rfl
theorem tyU5 : Tryz.prog.underlying 5 = some (.int .u8) := by kernel_rfl
theorem tyU9 : Tryz.prog.underlying 9 = some .string := by kernel_rfl
theorem tyU21 : Tryz.prog.underlying 21 = some (.int .i32) := by kernel_rfl
theorem tyU22 : Tryz.prog.underlying 22 = some (.slice 3) := by kernel_rfl
theorem tyU23 : Tryz.prog.underlying 23 = some (.pointer 25) := by kernel_rfl
theorem tyU26 : Tryz.prog.underlying 26 = some (.slice 32) := by kernel_rfl
theorem tyU35 : Tryz.prog.underlying 35 = some (.int .i64) := by kernel_rfl
theorem tyU46 : Tryz.prog.underlying 46 = some (.slice 9) := by kernel_rfl
theorem tyU49 : Tryz.prog.underlying 49 = some (.slice 52) := by kernel_rfl
theorem tyU51 : Tryz.prog.underlying 51 = some (.pointer 34) := by kernel_rfl
theorem tyU52 : Tryz.prog.underlying 52 = some (.pointer 3) := by kernel_rfl
theorem tyU64 : Tryz.prog.underlying 64 = some (.slice 63) := by kernel_rfl
theorem tyU86 : Tryz.prog.underlying 86 = some (.pointer 89) := by kernel_rfl
theorem tyU87 : Tryz.prog.underlying 87 = some (.slice 5) := by kernel_rfl
theorem tyU98 : Tryz.prog.underlying 98 = some (.int .u64) := by kernel_rfl
theorem tyU109 : Tryz.prog.underlying 109 = some (.array 256 4) := by kernel_rfl
theorem tyU113 : Tryz.prog.underlying 113 = some (.pointer 109) := by kernel_rfl
theorem tyU117 : Tryz.prog.underlying 117 = some (.pointer 5) := by kernel_rfl
theorem tyU125 : Tryz.prog.underlying 125 = some (.int .u32) := by kernel_rfl
theorem tyU128 : Tryz.prog.underlying 128 = some (.int .u64) := by kernel_rfl
theorem tyU145 : Tryz.prog.underlying 145 = some (.slice 185) := by kernel_rfl
theorem tyU146 : Tryz.prog.underlying 146 = some (.array 24 5) := by kernel_rfl
theorem tyU160 : Tryz.prog.underlying 160 = some (.array 256 5) := by kernel_rfl
theorem tyU163 : Tryz.prog.underlying 163 = some (.array 16 162) := by kernel_rfl
theorem tyU164 : Tryz.prog.underlying 164 = some (.pointer 185) := by kernel_rfl
theorem tyU168 : Tryz.prog.underlying 168 = some (.array 20 128) := by kernel_rfl
theorem tyU169 : Tryz.prog.underlying 169 = some (.array 65 5) := by kernel_rfl
theorem tyU172 : Tryz.prog.underlying 172 = some (.int .u16) := by kernel_rfl
theorem tyU173 : Tryz.prog.underlying 173 = some (.array 128 172) := by kernel_rfl
theorem tyU174 : Tryz.prog.underlying 174 = some (.slice 176) := by kernel_rfl
theorem tyU183 : Tryz.prog.underlying 183 = some (.array 3 21) := by kernel_rfl
theorem tyU188 : Tryz.prog.underlying 188 = some (.int .i64) := by kernel_rfl
theorem tyU194 : Tryz.prog.underlying 194 = some (.array 32 5) := by kernel_rfl
theorem tyU195 : Tryz.prog.underlying 195 = some (.array 64 5) := by kernel_rfl
theorem tyU196 : Tryz.prog.underlying 196 = some (.int .u64) := by kernel_rfl
theorem tyQ34 : tyQ Tryz.prog 34 = some [.bool, .bool, .bool, .bool, .bool, .bool, .int .i64, .int .i64, .int .i64, .int .i64, .int .i64, .int .i64] := by kernel_rfl
end Go.Proofs.YthgeeoecgneclaaGreatDoor
