/- Facts on the types of the program: read off its tables. Printed by a program. -/
import Derived.Test.YtodipncpfipjnaaGreatDoorRows
import Derived.Test.YtodipncpfipjnaaGreatDoorMb
namespace Go.Proofs.YtodipncpfipjnaaGreatDoor

theorem mixed : Tryz.prog.follows .mixedOrders = true := by kernel_rfl
theorem tyS3 : tyS Tryz.prog 3 = some (false, 1) := by kernel_rfl
theorem tyS4 : tyS Tryz.prog 4 = some (false, 1) := by kernel_rfl
theorem tyS5 : tyS Tryz.prog 5 = some (false, 1) := by kernel_rfl
theorem tyS9 : tyS Tryz.prog 9 = some (false, 1) := by kernel_rfl
theorem tyS21 : tyS Tryz.prog 21 = some (false, 1) := by kernel_rfl
theorem tyS22 : tyS Tryz.prog 22 = some (false, 1) := by kernel_rfl
theorem tyS25 : tyS Tryz.prog 25 = some (true, 2) := by kernel_rfl
theorem tyS26 : tyS Tryz.prog 26 = some (false, 1) := by kernel_rfl
theorem tyS28 : tyS Tryz.prog 28 = some (true, 8) := by kernel_rfl
theorem tyS31 : tyS Tryz.prog 31 = some (true, 3) := by kernel_rfl
theorem tyS50 : tyS Tryz.prog 50 = some (false, 1) := by kernel_rfl
theorem tyS51 : tyS Tryz.prog 51 = some (false, 1) := by kernel_rfl
theorem tyS53 : tyS Tryz.prog 53 = some (true, 2) := by kernel_rfl
theorem tyS55 : tyS Tryz.prog 55 = some (false, 1) := by kernel_rfl
theorem tyS70 : tyS Tryz.prog 70 = some (true, 2) := by kernel_rfl
theorem tyS95 : tyS Tryz.prog 95 = some (false, 1) := by kernel_rfl
theorem tyS98 : tyS Tryz.prog 98 = some (false, 1) := by kernel_rfl
theorem tyS112 : tyS Tryz.prog 112 = some (true, 256) := by kernel_rfl
theorem tyS127 : tyS Tryz.prog 127 = some (true, 24) := by kernel_rfl
theorem tyS141 : tyS Tryz.prog 141 = some (false, 1) := by kernel_rfl
theorem tyS143 : tyS Tryz.prog 143 = some (false, 1) := by kernel_rfl
theorem tyS145 : tyS Tryz.prog 145 = some (true, 2) := by kernel_rfl
theorem tyS148 : tyS Tryz.prog 148 = some (false, 1) := by kernel_rfl
theorem tyS152 : tyS Tryz.prog 152 = some (true, 65) := by kernel_rfl
theorem tyS167 : tyS Tryz.prog 167 = some (true, 2) := by kernel_rfl
theorem tyS170 : tyS Tryz.prog 170 = some (true, 3) := by kernel_rfl
theorem tyS172 : tyS Tryz.prog 172 = some (true, 5) := by kernel_rfl
theorem tyS176 : tyS Tryz.prog 176 = some (true, 3) := by kernel_rfl
theorem tyS183 : tyS Tryz.prog 183 = some (true, 1) := by kernel_rfl
theorem tyP25 : tyP Tryz.prog 25 = some [(0, 1), (1, 1)] := by kernel_rfl
theorem tyP28 : tyP Tryz.prog 28 = some [(0, 1), (1, 1), (2, 1), (3, 1), (4, 1), (5, 1), (6, 1), (7, 1)] := by kernel_rfl
theorem tyP31 : tyP Tryz.prog 31 = some [(0, 1), (1, 1), (2, 1)] := by kernel_rfl
theorem tyP53 : tyP Tryz.prog 53 = some [(0, 1), (1, 1)] := by kernel_rfl
theorem tyP70 : tyP Tryz.prog 70 = some [(0, 1), (1, 1)] := by kernel_rfl
theorem tyP145 : tyP Tryz.prog 145 = some [(0, 1), (1, 1)] := by kernel_rfl
theorem tyP167 : tyP Tryz.prog 167 = some [(0, 1), (1, 1)] := by kernel_rfl
theorem tyP172 : tyP Tryz.prog 172 = some [(0, 1), (1, 1), (2, 3)] := by kernel_rfl
theorem tyP176 : tyP Tryz.prog 176 = some [(0, 1), (1, 1), (2, 1)] := by kernel_rfl
theorem tyP183 : tyP Tryz.prog 183 = some [(0, 1)] := by kernel_rfl
theorem tyZ3 : tyZ Tryz.prog 3 = some [.int .i64 0] := by kernel_rfl
theorem tyZ5 : tyZ Tryz.prog 5 = some [.int .u8 0] := by kernel_rfl
theorem tyZ9 : tyZ Tryz.prog 9 = some [.string ⟨#[]⟩] := by kernel_rfl
theorem tyZ25 : tyZ Tryz.prog 25 = some [.slice none 0 0, .int .i64 0] := by kernel_rfl
theorem tyZ28 : tyZ Tryz.prog 28 = some [.int .i64 0, .string ⟨#[]⟩, .string ⟨#[]⟩, .string ⟨#[]⟩, .string ⟨#[]⟩, .string ⟨#[]⟩, .slice none 0 0, .string ⟨#[]⟩] := by kernel_rfl
theorem tyZ31 : tyZ Tryz.prog 31 = some [.int .i64 0, .slice none 0 0, .string ⟨#[]⟩] := by kernel_rfl
theorem tyZ53 : tyZ Tryz.prog 53 = some [.pointer none, .slice none 0 0] := by kernel_rfl
theorem tyZ70 : tyZ Tryz.prog 70 = some [.string ⟨#[]⟩, .string ⟨#[]⟩] := by kernel_rfl
theorem tyZ127 : tyZ Tryz.prog 127 = some [.int .u8 0, .int .u8 0, .int .u8 0, .int .u8 0, .int .u8 0, .int .u8 0, .int .u8 0, .int .u8 0, .int .u8 0, .int .u8 0, .int .u8 0, .int .u8 0, .int .u8 0, .int .u8 0, .int .u8 0, .int .u8 0, .int .u8 0, .int .u8 0, .int .u8 0, .int .u8 0, .int .u8 0, .int .u8 0, .int .u8 0, .int .u8 0] := by kernel_rfl
theorem tyZ145 : tyZ Tryz.prog 145 = some [.int .u16 0, .int .u16 0] := by kernel_rfl
theorem tyZ167 : tyZ Tryz.prog 167 = some [.int .u8 0, .int .u8 0] := by kernel_rfl
theorem tyZ172 : tyZ Tryz.prog 172 = some [.int .u32 0, .int .u32 0, .int .i32 0, .int .i32 0, .int .i32 0] := by kernel_rfl
theorem tyZ176 : tyZ Tryz.prog 176 = some [.string ⟨#[]⟩, .string ⟨#[]⟩, .nilIface] := by kernel_rfl
theorem tyZ183 : tyZ Tryz.prog 183 = some [.string ⟨#[]⟩] := by kernel_rfl
theorem tyF25_0 : tyF Tryz.prog 25 0 = some (0, 22) := by kernel_rfl
theorem tyF25_1 : tyF Tryz.prog 25 1 = some (1, 3) := by kernel_rfl
theorem tyF28_0 : tyF Tryz.prog 28 0 = some (0, 3) := by kernel_rfl
theorem tyF28_1 : tyF Tryz.prog 28 1 = some (1, 9) := by kernel_rfl
theorem tyF28_2 : tyF Tryz.prog 28 2 = some (2, 9) := by kernel_rfl
theorem tyF28_3 : tyF Tryz.prog 28 3 = some (3, 9) := by kernel_rfl
theorem tyF28_4 : tyF Tryz.prog 28 4 = some (4, 9) := by kernel_rfl
theorem tyF28_5 : tyF Tryz.prog 28 5 = some (5, 9) := by kernel_rfl
theorem tyF28_6 : tyF Tryz.prog 28 6 = some (6, 26) := by kernel_rfl
theorem tyF28_7 : tyF Tryz.prog 28 7 = some (7, 9) := by kernel_rfl
theorem tyF31_0 : tyF Tryz.prog 31 0 = some (0, 3) := by kernel_rfl
theorem tyF31_1 : tyF Tryz.prog 31 1 = some (1, 26) := by kernel_rfl
theorem tyF31_2 : tyF Tryz.prog 31 2 = some (2, 9) := by kernel_rfl
theorem tyF53_0 : tyF Tryz.prog 53 0 = some (0, 50) := by kernel_rfl
theorem tyF53_1 : tyF Tryz.prog 53 1 = some (1, 51) := by kernel_rfl
theorem tyF70_0 : tyF Tryz.prog 70 0 = some (0, 9) := by kernel_rfl
theorem tyF70_1 : tyF Tryz.prog 70 1 = some (1, 9) := by kernel_rfl
theorem tyF145_0 : tyF Tryz.prog 145 0 = some (0, 141) := by kernel_rfl
theorem tyF145_1 : tyF Tryz.prog 145 1 = some (1, 141) := by kernel_rfl
theorem tyF167_0 : tyF Tryz.prog 167 0 = some (0, 5) := by kernel_rfl
theorem tyF167_1 : tyF Tryz.prog 167 1 = some (1, 5) := by kernel_rfl
theorem tyF172_0 : tyF Tryz.prog 172 0 = some (0, 95) := by kernel_rfl
theorem tyF172_1 : tyF Tryz.prog 172 1 = some (1, 95) := by kernel_rfl
theorem tyF172_2 : tyF Tryz.prog 172 2 = some (2, 170) := by kernel_rfl
theorem tyE22 : tyE Tryz.prog 22 = some (3, 1) := by kernel_rfl
theorem tyL22 : Elem Tryz.prog 22 3 1 8 := Elem.mk (z := .int .i64 0) (by kernel_rfl) (by kernel_rfl) rfl (by decide)
theorem tyE26 : tyE Tryz.prog 26 = some (70, 2) := by kernel_rfl
theorem tyL26 : Elem Tryz.prog 26 70 2 32 := Elem.mk (z := .agg #[.string ⟨#[]⟩, .string ⟨#[]⟩]) (by kernel_rfl) (by kernel_rfl) rfl (by decide)
theorem tyE51 : tyE Tryz.prog 51 = some (5, 1) := by kernel_rfl
theorem tyL51 : Elem Tryz.prog 51 5 1 1 := Elem.mk (z := .int .u8 0) (by kernel_rfl) (by kernel_rfl) rfl (by decide)
theorem tyE87 : tyE Tryz.prog 87 = some (9, 1) := by kernel_rfl
theorem tyL87 : Elem Tryz.prog 87 9 1 16 := Elem.mk (z := .string ⟨#[]⟩) (by kernel_rfl) (by kernel_rfl) rfl (by decide)
theorem tyE143 : tyE Tryz.prog 143 = some (145, 2) := by kernel_rfl
theorem tyL143 : Elem Tryz.prog 143 145 2 4 := Elem.mk (z := .agg #[.int .u16 0, .int .u16 0]) (by kernel_rfl) (by kernel_rfl) rfl (by decide)
theorem tyE148 : tyE Tryz.prog 148 = some (172, 5) := by kernel_rfl
theorem tyL148 : Elem Tryz.prog 148 172 5 20 := Elem.mk (z := .agg #[.int .u32 0, .int .u32 0, .int .i32 0, .int .i32 0, .int .i32 0]) (by kernel_rfl) (by kernel_rfl) rfl (by decide)
theorem tyU2 : Tryz.prog.underlying 2 = some (.int .i64) := by kernel_rfl
theorem tyU3 : Tryz.prog.underlying 3 = some (.int .i64) := by kernel_rfl
theorem tyU4 : Tryz.prog.underlying 4 = some .bool := by kernel_rfl
theorem tyU5 : Tryz.prog.underlying 5 = some (.int .u8) := by kernel_rfl
theorem tyU9 : Tryz.prog.underlying 9 = some .string := by kernel_rfl
theorem tyU21 : Tryz.prog.underlying 21 = some (.int .i32) := by kernel_rfl
theorem tyU22 : Tryz.prog.underlying 22 = some (.slice 3) := by kernel_rfl
theorem tyU23 : Tryz.prog.underlying 23 = some (.pointer 25) := by kernel_rfl
theorem tyU26 : Tryz.prog.underlying 26 = some (.slice 70) := by kernel_rfl
theorem tyU33 : Tryz.prog.underlying 33 = some (.int .i64) := by kernel_rfl
theorem tyU50 : Tryz.prog.underlying 50 = some (.pointer 53) := by kernel_rfl
theorem tyU51 : Tryz.prog.underlying 51 = some (.slice 5) := by kernel_rfl
theorem tyU71 : Tryz.prog.underlying 71 = some (.int .u64) := by kernel_rfl
theorem tyU82 : Tryz.prog.underlying 82 = some (.pointer 5) := by kernel_rfl
theorem tyU87 : Tryz.prog.underlying 87 = some (.slice 9) := by kernel_rfl
theorem tyU95 : Tryz.prog.underlying 95 = some (.int .u32) := by kernel_rfl
theorem tyU98 : Tryz.prog.underlying 98 = some (.int .u64) := by kernel_rfl
theorem tyU112 : Tryz.prog.underlying 112 = some (.array 256 4) := by kernel_rfl
theorem tyU116 : Tryz.prog.underlying 116 = some (.pointer 112) := by kernel_rfl
theorem tyU127 : Tryz.prog.underlying 127 = some (.array 24 5) := by kernel_rfl
theorem tyU141 : Tryz.prog.underlying 141 = some (.int .u16) := by kernel_rfl
theorem tyU142 : Tryz.prog.underlying 142 = some (.array 128 141) := by kernel_rfl
theorem tyU143 : Tryz.prog.underlying 143 = some (.slice 145) := by kernel_rfl
theorem tyU146 : Tryz.prog.underlying 146 = some (.pointer 172) := by kernel_rfl
theorem tyU148 : Tryz.prog.underlying 148 = some (.slice 172) := by kernel_rfl
theorem tyU151 : Tryz.prog.underlying 151 = some (.array 20 98) := by kernel_rfl
theorem tyU152 : Tryz.prog.underlying 152 = some (.array 65 5) := by kernel_rfl
theorem tyU165 : Tryz.prog.underlying 165 = some (.array 256 5) := by kernel_rfl
theorem tyU168 : Tryz.prog.underlying 168 = some (.array 16 167) := by kernel_rfl
theorem tyU170 : Tryz.prog.underlying 170 = some (.array 3 21) := by kernel_rfl
theorem tyU179 : Tryz.prog.underlying 179 = some (.array 32 5) := by kernel_rfl
theorem tyU180 : Tryz.prog.underlying 180 = some (.array 64 5) := by kernel_rfl
end Go.Proofs.YtodipncpfipjnaaGreatDoor
