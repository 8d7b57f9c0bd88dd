/- Facts on the types of the program: read off its tables. Printed by a program. -/
import Derived.Test.YtmhghppkbppbjaaGreatDoorRows
import Derived.Test.YtmhghppkbppbjaaGreatDoorMb
namespace Go.Proofs.YtmhghppkbppbjaaGreatDoor

theorem mixed : Tryz.prog.follows .mixedOrders = true := by kernel_rfl
theorem tyS3 : tyS Tryz.prog 3 = some (false, 1) := by kernel_rfl
theorem tyS4 : tyS Tryz.prog 4 = some (false, 1) := by kernel_rfl
theorem tyS5 : tyS Tryz.prog 5 = some (false, 1) := by kernel_rfl
theorem tyS9 : tyS Tryz.prog 9 = some (false, 1) := by kernel_rfl
theorem tyS22 : tyS Tryz.prog 22 = some (false, 1) := by kernel_rfl
theorem tyS25 : tyS Tryz.prog 25 = some (true, 2) := by kernel_rfl
theorem tyS31 : tyS Tryz.prog 31 = some (true, 2) := by kernel_rfl
theorem tyS33 : tyS Tryz.prog 33 = some (false, 1) := by kernel_rfl
theorem tyS43 : tyS Tryz.prog 43 = some (false, 1) := by kernel_rfl
theorem tyS45 : tyS Tryz.prog 45 = some (true, 8) := by kernel_rfl
theorem tyS58 : tyS Tryz.prog 58 = some (true, 3) := by kernel_rfl
theorem tyS59 : tyS Tryz.prog 59 = some (false, 1) := by kernel_rfl
theorem tyS106 : tyS Tryz.prog 106 = some (true, 4) := by kernel_rfl
theorem tyS118 : tyS Tryz.prog 118 = some (true, 4) := by kernel_rfl
theorem tyS122 : tyS Tryz.prog 122 = some (false, 1) := by kernel_rfl
theorem tyS124 : tyS Tryz.prog 124 = some (true, 2) := by kernel_rfl
theorem tyS126 : tyS Tryz.prog 126 = some (false, 1) := by kernel_rfl
theorem tyS132 : tyS Tryz.prog 132 = some (true, 2) := by kernel_rfl
theorem tyS133 : tyS Tryz.prog 133 = some (false, 1) := by kernel_rfl
theorem tyS189 : tyS Tryz.prog 189 = some (false, 1) := by kernel_rfl
theorem tyS197 : tyS Tryz.prog 197 = some (true, 2) := by kernel_rfl
theorem tyS198 : tyS Tryz.prog 198 = some (true, 32) := by kernel_rfl
theorem tyS199 : tyS Tryz.prog 199 = some (true, 24) := by kernel_rfl
theorem tyS206 : tyS Tryz.prog 206 = some (true, 3) := by kernel_rfl
theorem tyS210 : tyS Tryz.prog 210 = some (true, 256) := by kernel_rfl
theorem tyS221 : tyS Tryz.prog 221 = some (true, 20) := by kernel_rfl
theorem tyS222 : tyS Tryz.prog 222 = some (true, 65) := by kernel_rfl
theorem tyS227 : tyS Tryz.prog 227 = some (true, 1) := by kernel_rfl
theorem tyS231 : tyS Tryz.prog 231 = some (true, 32) := by kernel_rfl
theorem tyS232 : tyS Tryz.prog 232 = some (true, 64) := by kernel_rfl
theorem tyP25 : tyP Tryz.prog 25 = some [(0, 1), (1, 1)] := by kernel_rfl
theorem tyP31 : tyP Tryz.prog 31 = some [(0, 1), (1, 1)] := by kernel_rfl
theorem tyP45 : tyP Tryz.prog 45 = some [(0, 1), (1, 1), (2, 1), (3, 1), (4, 1), (5, 1), (6, 1), (7, 1)] := by kernel_rfl
theorem tyP58 : tyP Tryz.prog 58 = some [(0, 1), (1, 1), (2, 1)] := by kernel_rfl
theorem tyP106 : tyP Tryz.prog 106 = some [(0, 1), (1, 1), (2, 1), (3, 1)] := by kernel_rfl
theorem tyP124 : tyP Tryz.prog 124 = some [(0, 1), (1, 1)] := by kernel_rfl
theorem tyP132 : tyP Tryz.prog 132 = some [(0, 1), (1, 1)] := by kernel_rfl
theorem tyP197 : tyP Tryz.prog 197 = some [(0, 1), (1, 1)] := by kernel_rfl
theorem tyP206 : tyP Tryz.prog 206 = some [(0, 1), (1, 1), (2, 1)] := by kernel_rfl
theorem tyP227 : tyP Tryz.prog 227 = some [(0, 1)] := by kernel_rfl
theorem tyZ3 : tyZ Tryz.prog 3 = some [.int .i64 0] := by kernel_rfl
theorem tyZ5 : tyZ Tryz.prog 5 = some [.int .u8 0] := by kernel_rfl
theorem tyZ9 : tyZ Tryz.prog 9 = some [.string ⟨#[]⟩] := by kernel_rfl
theorem tyZ25 : tyZ Tryz.prog 25 = some [.slice none 0 0, .int .i64 0] := by kernel_rfl
theorem tyZ31 : tyZ Tryz.prog 31 = some [.string ⟨#[]⟩, .string ⟨#[]⟩] := by kernel_rfl
theorem tyZ33 : tyZ Tryz.prog 33 = some [.int .i64 0] := by kernel_rfl
theorem tyZ43 : tyZ Tryz.prog 43 = some [.slice none 0 0] := by kernel_rfl
theorem tyZ45 : tyZ Tryz.prog 45 = some [.string ⟨#[]⟩, .string ⟨#[]⟩, .string ⟨#[]⟩, .string ⟨#[]⟩, .slice none 0 0, .slice none 0 0, .int .i64 0, .int .i64 0] := by kernel_rfl
theorem tyZ58 : tyZ Tryz.prog 58 = some [.string ⟨#[]⟩, .int .i64 0, .int .i64 0] := by kernel_rfl
theorem tyZ106 : tyZ Tryz.prog 106 = some [.slice none 0 0, .bool false, .int .i64 0, .bool false] := by kernel_rfl
theorem tyZ118 : tyZ Tryz.prog 118 = some [.string ⟨#[]⟩, .string ⟨#[]⟩, .string ⟨#[]⟩, .string ⟨#[]⟩] := by kernel_rfl
theorem tyZ124 : tyZ Tryz.prog 124 = some [.pointer none, .slice none 0 0] := by kernel_rfl
theorem tyZ132 : tyZ Tryz.prog 132 = some [.int .u8 0, .bool false] := by kernel_rfl
theorem tyZ189 : tyZ Tryz.prog 189 = some [.int .u64 0] := by kernel_rfl
theorem tyZ197 : tyZ Tryz.prog 197 = some [.int .u8 0, .int .u8 0] := by kernel_rfl
theorem tyZ198 : tyZ Tryz.prog 198 = some [.int .u8 0, .int .u8 0, .int .u8 0, .int .u8 0, .int .u8 0, .int .u8 0, .int .u8 0, .int .u8 0, .int .u8 0, .int .u8 0, .int .u8 0, .int .u8 0, .int .u8 0, .int .u8 0, .int .u8 0, .int .u8 0, .int .u8 0, .int .u8 0, .int .u8 0, .int .u8 0, .int .u8 0, .int .u8 0, .int .u8 0, .int .u8 0, .int .u8 0, .int .u8 0, .int .u8 0, .int .u8 0, .int .u8 0, .int .u8 0, .int .u8 0, .int .u8 0] := by kernel_rfl
theorem tyZ199 : tyZ Tryz.prog 199 = some [.int .u8 0, .int .u8 0, .int .u8 0, .int .u8 0, .int .u8 0, .int .u8 0, .int .u8 0, .int .u8 0, .int .u8 0, .int .u8 0, .int .u8 0, .int .u8 0, .int .u8 0, .int .u8 0, .int .u8 0, .int .u8 0, .int .u8 0, .int .u8 0, .int .u8 0, .int .u8 0, .int .u8 0, .int .u8 0, .int .u8 0, .int .u8 0] := by kernel_rfl
theorem tyZ206 : tyZ Tryz.prog 206 = some [.string ⟨#[]⟩, .string ⟨#[]⟩, .nilIface] := by kernel_rfl
theorem tyZ221 : tyZ Tryz.prog 221 = some [.int .u64 0, .int .u64 0, .int .u64 0, .int .u64 0, .int .u64 0, .int .u64 0, .int .u64 0, .int .u64 0, .int .u64 0, .int .u64 0, .int .u64 0, .int .u64 0, .int .u64 0, .int .u64 0, .int .u64 0, .int .u64 0, .int .u64 0, .int .u64 0, .int .u64 0, .int .u64 0] := by kernel_rfl
theorem tyZ227 : tyZ Tryz.prog 227 = some [.string ⟨#[]⟩] := by kernel_rfl
theorem tyZ231 : tyZ Tryz.prog 231 = some [.int .u8 0, .int .u8 0, .int .u8 0, .int .u8 0, .int .u8 0, .int .u8 0, .int .u8 0, .int .u8 0, .int .u8 0, .int .u8 0, .int .u8 0, .int .u8 0, .int .u8 0, .int .u8 0, .int .u8 0, .int .u8 0, .int .u8 0, .int .u8 0, .int .u8 0, .int .u8 0, .int .u8 0, .int .u8 0, .int .u8 0, .int .u8 0, .int .u8 0, .int .u8 0, .int .u8 0, .int .u8 0, .int .u8 0, .int .u8 0, .int .u8 0, .int .u8 0] := by kernel_rfl
theorem tyZ232 : tyZ Tryz.prog 232 = some [.int .u8 0, .int .u8 0, .int .u8 0, .int .u8 0, .int .u8 0, .int .u8 0, .int .u8 0, .int .u8 0, .int .u8 0, .int .u8 0, .int .u8 0, .int .u8 0, .int .u8 0, .int .u8 0, .int .u8 0, .int .u8 0, .int .u8 0, .int .u8 0, .int .u8 0, .int .u8 0, .int .u8 0, .int .u8 0, .int .u8 0, .int .u8 0, .int .u8 0, .int .u8 0, .int .u8 0, .int .u8 0, .int .u8 0, .int .u8 0, .int .u8 0, .int .u8 0, .int .u8 0, .int .u8 0, .int .u8 0, .int .u8 0, .int .u8 0, .int .u8 0, .int .u8 0, .int .u8 0, .int .u8 0, .int .u8 0, .int .u8 0, .int .u8 0, .int .u8 0, .int .u8 0, .int .u8 0, .int .u8 0, .int .u8 0, .int .u8 0, .int .u8 0, .int .u8 0, .int .u8 0, .int .u8 0, .int .u8 0, .int .u8 0, .int .u8 0, .int .u8 0, .int .u8 0, .int .u8 0, .int .u8 0, .int .u8 0, .int .u8 0, .int .u8 0] := by kernel_rfl
theorem tyF25_0 : tyF Tryz.prog 25 0 = some (0, 22) := by kernel_rfl
theorem tyF25_1 : tyF Tryz.prog 25 1 = some (1, 3) := by kernel_rfl
theorem tyF31_0 : tyF Tryz.prog 31 0 = some (0, 9) := by kernel_rfl
theorem tyF31_1 : tyF Tryz.prog 31 1 = some (1, 9) := by kernel_rfl
theorem tyF45_0 : tyF Tryz.prog 45 0 = some (0, 9) := by kernel_rfl
theorem tyF45_1 : tyF Tryz.prog 45 1 = some (1, 9) := by kernel_rfl
theorem tyF45_2 : tyF Tryz.prog 45 2 = some (2, 9) := by kernel_rfl
theorem tyF45_3 : tyF Tryz.prog 45 3 = some (3, 9) := by kernel_rfl
theorem tyF45_4 : tyF Tryz.prog 45 4 = some (4, 43) := by kernel_rfl
theorem tyF45_5 : tyF Tryz.prog 45 5 = some (5, 43) := by kernel_rfl
theorem tyF45_6 : tyF Tryz.prog 45 6 = some (6, 3) := by kernel_rfl
theorem tyF45_7 : tyF Tryz.prog 45 7 = some (7, 3) := by kernel_rfl
theorem tyF58_0 : tyF Tryz.prog 58 0 = some (0, 9) := by kernel_rfl
theorem tyF58_1 : tyF Tryz.prog 58 1 = some (1, 3) := by kernel_rfl
theorem tyF58_2 : tyF Tryz.prog 58 2 = some (2, 3) := by kernel_rfl
theorem tyF106_0 : tyF Tryz.prog 106 0 = some (0, 43) := by kernel_rfl
theorem tyF106_1 : tyF Tryz.prog 106 1 = some (1, 4) := by kernel_rfl
theorem tyF106_2 : tyF Tryz.prog 106 2 = some (2, 3) := by kernel_rfl
theorem tyF106_3 : tyF Tryz.prog 106 3 = some (3, 4) := by kernel_rfl
theorem tyF124_0 : tyF Tryz.prog 124 0 = some (0, 122) := by kernel_rfl
theorem tyF124_1 : tyF Tryz.prog 124 1 = some (1, 59) := by kernel_rfl
theorem tyF132_0 : tyF Tryz.prog 132 0 = some (0, 5) := by kernel_rfl
theorem tyF197_0 : tyF Tryz.prog 197 0 = some (0, 5) := by kernel_rfl
theorem tyF197_1 : tyF Tryz.prog 197 1 = some (1, 5) := by kernel_rfl
theorem tyE22 : tyE Tryz.prog 22 = some (3, 1) := by kernel_rfl
theorem tyL22 : Elem Tryz.prog 22 3 1 8 := Elem.mk (z := .int .i64 0) (by kernel_rfl) (by kernel_rfl) rfl (by decide)
theorem tyE27 : tyE Tryz.prog 27 = some (31, 2) := by kernel_rfl
theorem tyL27 : Elem Tryz.prog 27 31 2 32 := Elem.mk (z := .agg #[.string ⟨#[]⟩, .string ⟨#[]⟩]) (by kernel_rfl) (by kernel_rfl) rfl (by decide)
theorem tyE41 : tyE Tryz.prog 41 = some (58, 3) := by kernel_rfl
theorem tyL41 : Elem Tryz.prog 41 58 3 32 := Elem.mk (z := .agg #[.string ⟨#[]⟩, .int .i64 0, .int .i64 0]) (by kernel_rfl) (by kernel_rfl) rfl (by decide)
theorem tyE43 : tyE Tryz.prog 43 = some (9, 1) := by kernel_rfl
theorem tyL43 : Elem Tryz.prog 43 9 1 16 := Elem.mk (z := .string ⟨#[]⟩) (by kernel_rfl) (by kernel_rfl) rfl (by decide)
theorem tyE59 : tyE Tryz.prog 59 = some (5, 1) := by kernel_rfl
theorem tyL59 : Elem Tryz.prog 59 5 1 1 := Elem.mk (z := .int .u8 0) (by kernel_rfl) (by kernel_rfl) rfl (by decide)
theorem tyE73 : tyE Tryz.prog 73 = some (132, 2) := by kernel_rfl
theorem tyL73 : Elem Tryz.prog 73 132 2 2 := Elem.mk (z := .agg #[.int .u8 0, .bool false]) (by kernel_rfl) (by kernel_rfl) rfl (by decide)
theorem tyE81 : tyE Tryz.prog 81 = some (43, 1) := by kernel_rfl
theorem tyL81 : Elem Tryz.prog 81 43 1 24 := Elem.mk (z := .slice none 0 0) (by kernel_rfl) (by kernel_rfl) rfl (by decide)
theorem tyE92 : tyE Tryz.prog 92 = some (33, 1) := by kernel_rfl
theorem tyL92 : Elem Tryz.prog 92 33 1 8 := Elem.mk (z := .int .i64 0) (by kernel_rfl) (by kernel_rfl) rfl (by decide)
theorem tyU2 : Tryz.prog.underlying 2 = some (.int .i64) := by kernel_rfl
theorem tyU3 : Tryz.prog.underlying 3 = some (.int .i64) := by kernel_rfl
theorem tyU4 : Tryz.prog.underlying 4 = some .bool := by kernel_rfl
theorem tyU5 : Tryz.prog.underlying 5 = some (.int .u8) := by kernel_rfl
theorem tyU9 : Tryz.prog.underlying 9 = some .string := by kernel_rfl
theorem tyU21 : Tryz.prog.underlying 21 = some (.int .i32) := by kernel_rfl
theorem tyU22 : Tryz.prog.underlying 22 = some (.slice 3) := by kernel_rfl
theorem tyU23 : Tryz.prog.underlying 23 = some (.pointer 25) := by kernel_rfl
theorem tyU27 : Tryz.prog.underlying 27 = some (.slice 31) := by kernel_rfl
theorem tyU33 : Tryz.prog.underlying 33 = some (.int .i64) := by kernel_rfl
theorem tyU41 : Tryz.prog.underlying 41 = some (.slice 58) := by kernel_rfl
theorem tyU43 : Tryz.prog.underlying 43 = some (.slice 9) := by kernel_rfl
theorem tyU59 : Tryz.prog.underlying 59 = some (.slice 5) := by kernel_rfl
theorem tyU73 : Tryz.prog.underlying 73 = some (.slice 132) := by kernel_rfl
theorem tyU81 : Tryz.prog.underlying 81 = some (.slice 43) := by kernel_rfl
theorem tyU92 : Tryz.prog.underlying 92 = some (.slice 33) := by kernel_rfl
theorem tyU104 : Tryz.prog.underlying 104 = some (.pointer 106) := by kernel_rfl
theorem tyU117 : Tryz.prog.underlying 117 = some (.pointer 45) := by kernel_rfl
theorem tyU118 : Tryz.prog.underlying 118 = some (.array 4 9) := by kernel_rfl
theorem tyU122 : Tryz.prog.underlying 122 = some (.pointer 124) := by kernel_rfl
theorem tyU133 : Tryz.prog.underlying 133 = some (.int .u64) := by kernel_rfl
theorem tyU143 : Tryz.prog.underlying 143 = some (.int .u64) := by kernel_rfl
theorem tyU153 : Tryz.prog.underlying 153 = some (.map 9 152) := by kernel_rfl
theorem tyU156 : Tryz.prog.underlying 156 = some (.pointer 5) := by kernel_rfl
theorem tyU162 : Tryz.prog.underlying 162 = some (.int .i64) := by kernel_rfl
theorem tyU169 : Tryz.prog.underlying 169 = some (.int .u32) := by kernel_rfl
theorem tyU189 : Tryz.prog.underlying 189 = some (.int .u64) := by kernel_rfl
theorem tyU193 : Tryz.prog.underlying 193 = some (.pointer 3) := by kernel_rfl
theorem tyU195 : Tryz.prog.underlying 195 = some (.array 256 5) := by kernel_rfl
theorem tyU198 : Tryz.prog.underlying 198 = some (.array 16 197) := by kernel_rfl
theorem tyU199 : Tryz.prog.underlying 199 = some (.array 24 5) := by kernel_rfl
theorem tyU210 : Tryz.prog.underlying 210 = some (.array 256 4) := by kernel_rfl
theorem tyU221 : Tryz.prog.underlying 221 = some (.array 20 133) := by kernel_rfl
theorem tyU222 : Tryz.prog.underlying 222 = some (.array 65 5) := by kernel_rfl
theorem tyU231 : Tryz.prog.underlying 231 = some (.array 32 5) := by kernel_rfl
theorem tyU232 : Tryz.prog.underlying 232 = some (.array 64 5) := by kernel_rfl
theorem tyQ31 : tyQ Tryz.prog 31 = some [.string, .string] := by kernel_rfl
theorem tyQ58 : tyQ Tryz.prog 58 = some [.string, .int .i64, .int .i64] := by kernel_rfl
end Go.Proofs.YtmhghppkbppbjaaGreatDoor
