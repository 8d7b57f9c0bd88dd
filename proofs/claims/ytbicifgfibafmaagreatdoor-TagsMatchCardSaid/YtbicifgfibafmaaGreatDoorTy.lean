/- Facts on the types of the program: read off its tables. Printed by a program. -/
import Derived.Test.YtbicifgfibafmaaGreatDoorRows
import Derived.Test.YtbicifgfibafmaaGreatDoorMb
namespace Go.Proofs.YtbicifgfibafmaaGreatDoor

theorem mixed : Tryz.prog.follows .mixedOrders = true := by kernel_rfl
theorem tyS3 : tyS Tryz.prog 3 = some (false, 1) := by kernel_rfl
theorem tyS4 : tyS Tryz.prog 4 = some (false, 1) := by kernel_rfl
theorem tyS5 : tyS Tryz.prog 5 = some (false, 1) := by kernel_rfl
theorem tyS9 : tyS Tryz.prog 9 = some (false, 1) := by kernel_rfl
theorem tyS21 : tyS Tryz.prog 21 = some (false, 1) := by kernel_rfl
theorem tyS22 : tyS Tryz.prog 22 = some (false, 1) := by kernel_rfl
theorem tyS25 : tyS Tryz.prog 25 = some (true, 2) := by kernel_rfl
theorem tyS28 : tyS Tryz.prog 28 = some (false, 1) := by kernel_rfl
theorem tyS30 : tyS Tryz.prog 30 = some (true, 8) := by kernel_rfl
theorem tyS33 : tyS Tryz.prog 33 = some (true, 3) := by kernel_rfl
theorem tyS35 : tyS Tryz.prog 35 = some (false, 1) := by kernel_rfl
theorem tyS51 : tyS Tryz.prog 51 = some (true, 2) := by kernel_rfl
theorem tyS74 : tyS Tryz.prog 74 = some (false, 1) := by kernel_rfl
theorem tyS75 : tyS Tryz.prog 75 = some (false, 1) := by kernel_rfl
theorem tyS77 : tyS Tryz.prog 77 = some (true, 2) := by kernel_rfl
theorem tyS80 : tyS Tryz.prog 80 = some (false, 1) := by kernel_rfl
theorem tyS87 : tyS Tryz.prog 87 = some (true, 256) := by kernel_rfl
theorem tyS102 : tyS Tryz.prog 102 = some (true, 12) := by kernel_rfl
theorem tyS108 : tyS Tryz.prog 108 = some (false, 1) := by kernel_rfl
theorem tyS111 : tyS Tryz.prog 111 = some (false, 1) := by kernel_rfl
theorem tyS132 : tyS Tryz.prog 132 = some (false, 1) := by kernel_rfl
theorem tyS147 : tyS Tryz.prog 147 = some (false, 1) := by kernel_rfl
theorem tyS151 : tyS Tryz.prog 151 = some (true, 2) := by kernel_rfl
theorem tyS154 : tyS Tryz.prog 154 = some (false, 1) := by kernel_rfl
theorem tyS156 : tyS Tryz.prog 156 = some (false, 1) := by kernel_rfl
theorem tyS158 : tyS Tryz.prog 158 = some (true, 2) := by kernel_rfl
theorem tyS161 : tyS Tryz.prog 161 = some (false, 1) := by kernel_rfl
theorem tyS177 : tyS Tryz.prog 177 = some (true, 3) := by kernel_rfl
theorem tyS179 : tyS Tryz.prog 179 = some (true, 5) := by kernel_rfl
theorem tyS183 : tyS Tryz.prog 183 = some (true, 3) := by kernel_rfl
theorem tyS185 : tyS Tryz.prog 185 = some (true, 24) := by kernel_rfl
theorem tyS201 : tyS Tryz.prog 201 = some (true, 1) := by kernel_rfl
theorem tyS204 : tyS Tryz.prog 204 = some (true, 65) := by kernel_rfl
theorem tyS205 : tyS Tryz.prog 205 = some (false, 1) := by kernel_rfl
theorem tyP25 : tyP Tryz.prog 25 = some [(0, 1), (1, 1)] := by kernel_rfl
theorem tyP30 : tyP Tryz.prog 30 = some [(0, 1), (1, 1), (2, 1), (3, 1), (4, 1), (5, 1), (6, 1), (7, 1)] := by kernel_rfl
theorem tyP33 : tyP Tryz.prog 33 = some [(0, 1), (1, 1), (2, 1)] := by kernel_rfl
theorem tyP51 : tyP Tryz.prog 51 = some [(0, 1), (1, 1)] := by kernel_rfl
theorem tyP77 : tyP Tryz.prog 77 = some [(0, 1), (1, 1)] := by kernel_rfl
theorem tyP102 : tyP Tryz.prog 102 = some [(0, 1), (1, 1), (2, 1), (3, 1), (4, 1), (5, 1), (6, 1), (7, 1), (8, 1), (9, 1), (10, 1), (11, 1)] := by kernel_rfl
theorem tyP151 : tyP Tryz.prog 151 = some [(0, 1), (1, 1)] := by kernel_rfl
theorem tyP158 : tyP Tryz.prog 158 = some [(0, 1), (1, 1)] := by kernel_rfl
theorem tyP179 : tyP Tryz.prog 179 = some [(0, 1), (1, 1), (2, 3)] := by kernel_rfl
theorem tyP183 : tyP Tryz.prog 183 = some [(0, 1), (1, 1), (2, 1)] := by kernel_rfl
theorem tyP201 : tyP Tryz.prog 201 = some [(0, 1)] := by kernel_rfl
theorem tyZ3 : tyZ Tryz.prog 3 = some [.int .i64 0] := by kernel_rfl
theorem tyZ5 : tyZ Tryz.prog 5 = some [.int .u8 0] := by kernel_rfl
theorem tyZ9 : tyZ Tryz.prog 9 = some [.string ⟨#[]⟩] := by kernel_rfl
theorem tyZ25 : tyZ Tryz.prog 25 = some [.slice none 0 0, .int .i64 0] := by kernel_rfl
theorem tyZ30 : tyZ Tryz.prog 30 = some [.int .i64 0, .string ⟨#[]⟩, .string ⟨#[]⟩, .string ⟨#[]⟩, .string ⟨#[]⟩, .string ⟨#[]⟩, .slice none 0 0, .string ⟨#[]⟩] := by kernel_rfl
theorem tyZ33 : tyZ Tryz.prog 33 = some [.int .i64 0, .slice none 0 0, .string ⟨#[]⟩] := by kernel_rfl
theorem tyZ35 : tyZ Tryz.prog 35 = some [.int .i64 0] := by kernel_rfl
theorem tyZ51 : tyZ Tryz.prog 51 = some [.string ⟨#[]⟩, .string ⟨#[]⟩] := by kernel_rfl
theorem tyZ77 : tyZ Tryz.prog 77 = some [.pointer none, .slice none 0 0] := by kernel_rfl
theorem tyZ102 : tyZ Tryz.prog 102 = some [.bool false, .bool false, .bool false, .bool false, .bool false, .bool false, .int .i64 0, .int .i64 0, .int .i64 0, .int .i64 0, .int .i64 0, .int .i64 0] := by kernel_rfl
theorem tyZ132 : tyZ Tryz.prog 132 = some [.pointer none] := by kernel_rfl
theorem tyZ147 : tyZ Tryz.prog 147 = some [.pointer none] := by kernel_rfl
theorem tyZ151 : tyZ Tryz.prog 151 = some [.int .u8 0, .int .u8 0] := by kernel_rfl
theorem tyZ158 : tyZ Tryz.prog 158 = some [.int .u16 0, .int .u16 0] := by kernel_rfl
theorem tyZ179 : tyZ Tryz.prog 179 = some [.int .u32 0, .int .u32 0, .int .i32 0, .int .i32 0, .int .i32 0] := by kernel_rfl
theorem tyZ183 : tyZ Tryz.prog 183 = some [.string ⟨#[]⟩, .string ⟨#[]⟩, .nilIface] := by kernel_rfl
theorem tyZ185 : tyZ Tryz.prog 185 = some [.int .u8 0, .int .u8 0, .int .u8 0, .int .u8 0, .int .u8 0, .int .u8 0, .int .u8 0, .int .u8 0, .int .u8 0, .int .u8 0, .int .u8 0, .int .u8 0, .int .u8 0, .int .u8 0, .int .u8 0, .int .u8 0, .int .u8 0, .int .u8 0, .int .u8 0, .int .u8 0, .int .u8 0, .int .u8 0, .int .u8 0, .int .u8 0] := by kernel_rfl
theorem tyZ201 : tyZ Tryz.prog 201 = some [.string ⟨#[]⟩] := by kernel_rfl
theorem tyZ205 : tyZ Tryz.prog 205 = some [.int .u64 0] := by kernel_rfl
theorem tyF25_0 : tyF Tryz.prog 25 0 = some (0, 22) := by kernel_rfl
theorem tyF25_1 : tyF Tryz.prog 25 1 = some (1, 3) := by kernel_rfl
theorem tyF30_0 : tyF Tryz.prog 30 0 = some (0, 3) := by kernel_rfl
theorem tyF30_1 : tyF Tryz.prog 30 1 = some (1, 9) := by kernel_rfl
theorem tyF30_2 : tyF Tryz.prog 30 2 = some (2, 9) := by kernel_rfl
theorem tyF30_3 : tyF Tryz.prog 30 3 = some (3, 9) := by kernel_rfl
theorem tyF30_4 : tyF Tryz.prog 30 4 = some (4, 9) := by kernel_rfl
theorem tyF30_5 : tyF Tryz.prog 30 5 = some (5, 9) := by kernel_rfl
theorem tyF30_6 : tyF Tryz.prog 30 6 = some (6, 28) := by kernel_rfl
theorem tyF30_7 : tyF Tryz.prog 30 7 = some (7, 9) := by kernel_rfl
theorem tyF33_0 : tyF Tryz.prog 33 0 = some (0, 3) := by kernel_rfl
theorem tyF33_1 : tyF Tryz.prog 33 1 = some (1, 28) := by kernel_rfl
theorem tyF33_2 : tyF Tryz.prog 33 2 = some (2, 9) := by kernel_rfl
theorem tyF51_0 : tyF Tryz.prog 51 0 = some (0, 9) := by kernel_rfl
theorem tyF51_1 : tyF Tryz.prog 51 1 = some (1, 9) := by kernel_rfl
theorem tyF77_0 : tyF Tryz.prog 77 0 = some (0, 74) := by kernel_rfl
theorem tyF77_1 : tyF Tryz.prog 77 1 = some (1, 75) := by kernel_rfl
theorem tyF102_0 : tyF Tryz.prog 102 0 = some (0, 4) := by kernel_rfl
theorem tyF102_1 : tyF Tryz.prog 102 1 = some (1, 4) := by kernel_rfl
theorem tyF102_2 : tyF Tryz.prog 102 2 = some (2, 4) := by kernel_rfl
theorem tyF102_3 : tyF Tryz.prog 102 3 = some (3, 4) := by kernel_rfl
theorem tyF102_4 : tyF Tryz.prog 102 4 = some (4, 4) := by kernel_rfl
theorem tyF102_5 : tyF Tryz.prog 102 5 = some (5, 4) := by kernel_rfl
theorem tyF102_6 : tyF Tryz.prog 102 6 = some (6, 3) := by kernel_rfl
theorem tyF102_7 : tyF Tryz.prog 102 7 = some (7, 3) := by kernel_rfl
theorem tyF102_8 : tyF Tryz.prog 102 8 = some (8, 3) := by kernel_rfl
theorem tyF102_9 : tyF Tryz.prog 102 9 = some (9, 3) := by kernel_rfl
theorem tyF102_10 : tyF Tryz.prog 102 10 = some (10, 3) := by kernel_rfl
theorem tyF102_11 : tyF Tryz.prog 102 11 = some (11, 3) := by kernel_rfl
theorem tyF151_0 : tyF Tryz.prog 151 0 = some (0, 5) := by kernel_rfl
theorem tyF151_1 : tyF Tryz.prog 151 1 = some (1, 5) := by kernel_rfl
theorem tyF158_0 : tyF Tryz.prog 158 0 = some (0, 154) := by kernel_rfl
theorem tyF158_1 : tyF Tryz.prog 158 1 = some (1, 154) := by kernel_rfl
theorem tyF179_0 : tyF Tryz.prog 179 0 = some (0, 108) := by kernel_rfl
theorem tyF179_1 : tyF Tryz.prog 179 1 = some (1, 108) := by kernel_rfl
theorem tyF179_2 : tyF Tryz.prog 179 2 = some (2, 177) := by kernel_rfl
theorem tyE22 : tyE Tryz.prog 22 = some (3, 1) := by kernel_rfl
theorem tyL22 : Elem Tryz.prog 22 3 1 8 := Elem.mk (z := .int .i64 0) (by kernel_rfl) (by kernel_rfl) rfl (by decide)
theorem tyE28 : tyE Tryz.prog 28 = some (51, 2) := by kernel_rfl
theorem tyL28 : Elem Tryz.prog 28 51 2 32 := Elem.mk (z := .agg #[.string ⟨#[]⟩, .string ⟨#[]⟩]) (by kernel_rfl) (by kernel_rfl) rfl (by decide)
theorem tyE48 : tyE Tryz.prog 48 = some (9, 1) := by kernel_rfl
theorem tyL48 : Elem Tryz.prog 48 9 1 16 := Elem.mk (z := .string ⟨#[]⟩) (by kernel_rfl) (by kernel_rfl) rfl (by decide)
theorem tyE62 : tyE Tryz.prog 62 = some (35, 1) := by kernel_rfl
theorem tyL62 : Elem Tryz.prog 62 35 1 8 := Elem.mk (z := .int .i64 0) (by kernel_rfl) (by kernel_rfl) rfl (by decide)
theorem tyE75 : tyE Tryz.prog 75 = some (5, 1) := by kernel_rfl
theorem tyL75 : Elem Tryz.prog 75 5 1 1 := Elem.mk (z := .int .u8 0) (by kernel_rfl) (by kernel_rfl) rfl (by decide)
theorem tyE128 : tyE Tryz.prog 128 = some (132, 1) := by kernel_rfl
theorem tyL128 : Elem Tryz.prog 128 132 1 8 := Elem.mk (z := .pointer none) (by kernel_rfl) (by kernel_rfl) rfl (by decide)
theorem tyE144 : tyE Tryz.prog 144 = some (147, 1) := by kernel_rfl
theorem tyL144 : Elem Tryz.prog 144 147 1 8 := Elem.mk (z := .pointer none) (by kernel_rfl) (by kernel_rfl) rfl (by decide)
theorem tyE156 : tyE Tryz.prog 156 = some (158, 2) := by kernel_rfl
theorem tyL156 : Elem Tryz.prog 156 158 2 4 := Elem.mk (z := .agg #[.int .u16 0, .int .u16 0]) (by kernel_rfl) (by kernel_rfl) rfl (by decide)
theorem tyE161 : tyE Tryz.prog 161 = some (179, 5) := by kernel_rfl
theorem tyL161 : Elem Tryz.prog 161 179 5 20 := Elem.mk (z := .agg #[.int .u32 0, .int .u32 0, .int .i32 0, .int .i32 0, .int .i32 0]) (by kernel_rfl) (by kernel_rfl) rfl (by decide)
theorem tyU2 : Tryz.prog.underlying 2 = some (.int .i64) := by kernel_rfl
theorem tyU3 : Tryz.prog.underlying 3 = some (.int .i64) := by kernel_rfl
theorem tyU4 : Tryz.prog.underlying 4 = some .bool := by kernel_rfl
theorem tyU5 : Tryz.prog.underlying 5 = some (.int .u8) := by kernel_rfl
theorem tyU9 : Tryz.prog.underlying 9 = some .string := by kernel_rfl
theorem tyU21 : Tryz.prog.underlying 21 = some (.int .i32) := by kernel_rfl
theorem tyU22 : Tryz.prog.underlying 22 = some (.slice 3) := by kernel_rfl
theorem tyU23 : Tryz.prog.underlying 23 = some (.pointer 25) := by kernel_rfl
theorem tyU28 : Tryz.prog.underlying 28 = some (.slice 51) := by kernel_rfl
theorem tyU35 : Tryz.prog.underlying 35 = some (.int .i64) := by kernel_rfl
theorem tyU48 : Tryz.prog.underlying 48 = some (.slice 9) := by kernel_rfl
theorem tyU62 : Tryz.prog.underlying 62 = some (.slice 35) := by kernel_rfl
theorem tyU70 : Tryz.prog.underlying 70 = some (.int .u64) := by kernel_rfl
theorem tyU74 : Tryz.prog.underlying 74 = some (.pointer 77) := by kernel_rfl
theorem tyU75 : Tryz.prog.underlying 75 = some (.slice 5) := by kernel_rfl
theorem tyU87 : Tryz.prog.underlying 87 = some (.array 256 4) := by kernel_rfl
theorem tyU91 : Tryz.prog.underlying 91 = some (.pointer 87) := by kernel_rfl
theorem tyU108 : Tryz.prog.underlying 108 = some (.int .u32) := by kernel_rfl
theorem tyU111 : Tryz.prog.underlying 111 = some (.int .u64) := by kernel_rfl
theorem tyU114 : Tryz.prog.underlying 114 = some (.pointer 5) := by kernel_rfl
theorem tyU128 : Tryz.prog.underlying 128 = some (.slice 132) := by kernel_rfl
theorem tyU131 : Tryz.prog.underlying 131 = some (.pointer 102) := by kernel_rfl
theorem tyU132 : Tryz.prog.underlying 132 = some (.pointer 3) := by kernel_rfl
theorem tyU144 : Tryz.prog.underlying 144 = some (.slice 147) := by kernel_rfl
theorem tyU149 : Tryz.prog.underlying 149 = some (.array 256 5) := by kernel_rfl
theorem tyU152 : Tryz.prog.underlying 152 = some (.array 16 151) := by kernel_rfl
theorem tyU154 : Tryz.prog.underlying 154 = some (.int .u16) := by kernel_rfl
theorem tyU155 : Tryz.prog.underlying 155 = some (.array 128 154) := by kernel_rfl
theorem tyU156 : Tryz.prog.underlying 156 = some (.slice 158) := by kernel_rfl
theorem tyU159 : Tryz.prog.underlying 159 = some (.pointer 179) := by kernel_rfl
theorem tyU161 : Tryz.prog.underlying 161 = some (.slice 179) := by kernel_rfl
theorem tyU177 : Tryz.prog.underlying 177 = some (.array 3 21) := by kernel_rfl
theorem tyU185 : Tryz.prog.underlying 185 = some (.array 24 5) := by kernel_rfl
theorem tyU191 : Tryz.prog.underlying 191 = some (.int .i64) := by kernel_rfl
theorem tyU203 : Tryz.prog.underlying 203 = some (.array 20 111) := by kernel_rfl
theorem tyU204 : Tryz.prog.underlying 204 = some (.array 65 5) := by kernel_rfl
theorem tyU205 : Tryz.prog.underlying 205 = some (.int .u64) := by kernel_rfl
theorem tyU213 : Tryz.prog.underlying 213 = some (.array 32 5) := by kernel_rfl
theorem tyU214 : Tryz.prog.underlying 214 = some (.array 64 5) := by kernel_rfl
end Go.Proofs.YtbicifgfibafmaaGreatDoor
