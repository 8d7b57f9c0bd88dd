/- Facts on the types of the program: read off its tables. Printed by a program. -/
import Derived.Test.YthodoodnkohdaaaGreatDoorRows
import Derived.Test.YthodoodnkohdaaaGreatDoorMb
namespace Go.Proofs.YthodoodnkohdaaaGreatDoor

theorem mixed : Tryz.prog.follows .mixedOrders = true := by kernel_rfl
theorem tyS3 : tyS Tryz.prog 3 = some (false, 1) := by kernel_rfl
theorem tyS4 : tyS Tryz.prog 4 = some (false, 1) := by kernel_rfl
theorem tyS5 : tyS Tryz.prog 5 = some (false, 1) := by kernel_rfl
theorem tyS9 : tyS Tryz.prog 9 = some (false, 1) := by kernel_rfl
theorem tyS21 : tyS Tryz.prog 21 = some (false, 1) := by kernel_rfl
theorem tyS22 : tyS Tryz.prog 22 = some (false, 1) := by kernel_rfl
theorem tyS25 : tyS Tryz.prog 25 = some (true, 2) := by kernel_rfl
theorem tyS29 : tyS Tryz.prog 29 = some (true, 7) := by kernel_rfl
theorem tyS44 : tyS Tryz.prog 44 = some (true, 2) := by kernel_rfl
theorem tyS49 : tyS Tryz.prog 49 = some (true, 2) := by kernel_rfl
theorem tyS75 : tyS Tryz.prog 75 = some (false, 1) := by kernel_rfl
theorem tyS76 : tyS Tryz.prog 76 = some (false, 1) := by kernel_rfl
theorem tyS78 : tyS Tryz.prog 78 = some (true, 2) := by kernel_rfl
theorem tyS81 : tyS Tryz.prog 81 = some (false, 1) := by kernel_rfl
theorem tyS91 : tyS Tryz.prog 91 = some (true, 256) := by kernel_rfl
theorem tyS128 : tyS Tryz.prog 128 = some (false, 1) := by kernel_rfl
theorem tyS131 : tyS Tryz.prog 131 = some (true, 24) := by kernel_rfl
theorem tyS132 : tyS Tryz.prog 132 = some (false, 1) := by kernel_rfl
theorem tyS145 : tyS Tryz.prog 145 = some (false, 1) := by kernel_rfl
theorem tyS152 : tyS Tryz.prog 152 = some (true, 2) := by kernel_rfl
theorem tyS157 : tyS Tryz.prog 157 = some (false, 1) := by kernel_rfl
theorem tyS159 : tyS Tryz.prog 159 = some (false, 1) := by kernel_rfl
theorem tyS161 : tyS Tryz.prog 161 = some (true, 2) := by kernel_rfl
theorem tyS166 : tyS Tryz.prog 166 = some (true, 65) := by kernel_rfl
theorem tyS169 : tyS Tryz.prog 169 = some (true, 3) := by kernel_rfl
theorem tyS172 : tyS Tryz.prog 172 = some (true, 3) := by kernel_rfl
theorem tyS174 : tyS Tryz.prog 174 = some (true, 5) := by kernel_rfl
theorem tyS179 : tyS Tryz.prog 179 = some (true, 1) := by kernel_rfl
theorem tyP25 : tyP Tryz.prog 25 = some [(0, 1), (1, 1)] := by kernel_rfl
theorem tyP29 : tyP Tryz.prog 29 = some [(0, 1), (1, 1), (2, 1), (3, 1), (4, 1), (5, 1), (6, 1)] := by kernel_rfl
theorem tyP44 : tyP Tryz.prog 44 = some [(0, 1), (1, 1)] := by kernel_rfl
theorem tyP49 : tyP Tryz.prog 49 = some [(0, 1), (1, 1)] := by kernel_rfl
theorem tyP78 : tyP Tryz.prog 78 = some [(0, 1), (1, 1)] := by kernel_rfl
theorem tyP152 : tyP Tryz.prog 152 = some [(0, 1), (1, 1)] := by kernel_rfl
theorem tyP161 : tyP Tryz.prog 161 = some [(0, 1), (1, 1)] := by kernel_rfl
theorem tyP169 : tyP Tryz.prog 169 = some [(0, 1), (1, 1), (2, 1)] := by kernel_rfl
theorem tyP174 : tyP Tryz.prog 174 = some [(0, 1), (1, 1), (2, 3)] := by kernel_rfl
theorem tyP179 : tyP Tryz.prog 179 = some [(0, 1)] := by kernel_rfl
theorem tyZ3 : tyZ Tryz.prog 3 = some [.int .i64 0] := by kernel_rfl
theorem tyZ5 : tyZ Tryz.prog 5 = some [.int .u8 0] := by kernel_rfl
theorem tyZ9 : tyZ Tryz.prog 9 = some [.string ⟨#[]⟩] := by kernel_rfl
theorem tyZ25 : tyZ Tryz.prog 25 = some [.slice none 0 0, .int .i64 0] := by kernel_rfl
theorem tyZ29 : tyZ Tryz.prog 29 = some [.string ⟨#[]⟩, .string ⟨#[]⟩, .string ⟨#[]⟩, .string ⟨#[]⟩, .int .i64 0, .bool false, .bool false] := by kernel_rfl
theorem tyZ44 : tyZ Tryz.prog 44 = some [.string ⟨#[]⟩, .string ⟨#[]⟩] := by kernel_rfl
theorem tyZ49 : tyZ Tryz.prog 49 = some [.string ⟨#[]⟩, .string ⟨#[]⟩] := by kernel_rfl
theorem tyZ78 : tyZ Tryz.prog 78 = some [.pointer none, .slice none 0 0] := by kernel_rfl
theorem tyZ131 : tyZ Tryz.prog 131 = some [.int .u8 0, .int .u8 0, .int .u8 0, .int .u8 0, .int .u8 0, .int .u8 0, .int .u8 0, .int .u8 0, .int .u8 0, .int .u8 0, .int .u8 0, .int .u8 0, .int .u8 0, .int .u8 0, .int .u8 0, .int .u8 0, .int .u8 0, .int .u8 0, .int .u8 0, .int .u8 0, .int .u8 0, .int .u8 0, .int .u8 0, .int .u8 0] := by kernel_rfl
theorem tyZ152 : tyZ Tryz.prog 152 = some [.int .u8 0, .int .u8 0] := by kernel_rfl
theorem tyZ161 : tyZ Tryz.prog 161 = some [.int .u16 0, .int .u16 0] := by kernel_rfl
theorem tyZ169 : tyZ Tryz.prog 169 = some [.string ⟨#[]⟩, .string ⟨#[]⟩, .nilIface] := by kernel_rfl
theorem tyZ174 : tyZ Tryz.prog 174 = some [.int .u32 0, .int .u32 0, .int .i32 0, .int .i32 0, .int .i32 0] := by kernel_rfl
theorem tyZ179 : tyZ Tryz.prog 179 = some [.string ⟨#[]⟩] := by kernel_rfl
theorem tyF25_0 : tyF Tryz.prog 25 0 = some (0, 22) := by kernel_rfl
theorem tyF25_1 : tyF Tryz.prog 25 1 = some (1, 3) := by kernel_rfl
theorem tyF29_0 : tyF Tryz.prog 29 0 = some (0, 9) := by kernel_rfl
theorem tyF29_1 : tyF Tryz.prog 29 1 = some (1, 9) := by kernel_rfl
theorem tyF29_2 : tyF Tryz.prog 29 2 = some (2, 9) := by kernel_rfl
theorem tyF29_3 : tyF Tryz.prog 29 3 = some (3, 9) := by kernel_rfl
theorem tyF29_4 : tyF Tryz.prog 29 4 = some (4, 3) := by kernel_rfl
theorem tyF29_5 : tyF Tryz.prog 29 5 = some (5, 4) := by kernel_rfl
theorem tyF29_6 : tyF Tryz.prog 29 6 = some (6, 4) := by kernel_rfl
theorem tyF49_0 : tyF Tryz.prog 49 0 = some (0, 9) := by kernel_rfl
theorem tyF49_1 : tyF Tryz.prog 49 1 = some (1, 9) := by kernel_rfl
theorem tyF78_0 : tyF Tryz.prog 78 0 = some (0, 75) := by kernel_rfl
theorem tyF78_1 : tyF Tryz.prog 78 1 = some (1, 76) := by kernel_rfl
theorem tyF152_0 : tyF Tryz.prog 152 0 = some (0, 5) := by kernel_rfl
theorem tyF152_1 : tyF Tryz.prog 152 1 = some (1, 5) := by kernel_rfl
theorem tyF161_0 : tyF Tryz.prog 161 0 = some (0, 157) := by kernel_rfl
theorem tyF161_1 : tyF Tryz.prog 161 1 = some (1, 157) := by kernel_rfl
theorem tyF174_0 : tyF Tryz.prog 174 0 = some (0, 145) := by kernel_rfl
theorem tyF174_1 : tyF Tryz.prog 174 1 = some (1, 145) := by kernel_rfl
theorem tyF174_2 : tyF Tryz.prog 174 2 = some (2, 172) := by kernel_rfl
theorem tyE22 : tyE Tryz.prog 22 = some (3, 1) := by kernel_rfl
theorem tyL22 : Elem Tryz.prog 22 3 1 8 := Elem.mk (z := .int .i64 0) (by kernel_rfl) (by kernel_rfl) rfl (by decide)
theorem tyE26 : tyE Tryz.prog 26 = some (49, 2) := by kernel_rfl
theorem tyL26 : Elem Tryz.prog 26 49 2 32 := Elem.mk (z := .agg #[.string ⟨#[]⟩, .string ⟨#[]⟩]) (by kernel_rfl) (by kernel_rfl) rfl (by decide)
theorem tyE32 : tyE Tryz.prog 32 = some (44, 2) := by kernel_rfl
theorem tyL32 : Elem Tryz.prog 32 44 2 32 := Elem.mk (z := .agg #[.string ⟨#[]⟩, .string ⟨#[]⟩]) (by kernel_rfl) (by kernel_rfl) rfl (by decide)
theorem tyE60 : tyE Tryz.prog 60 = some (9, 1) := by kernel_rfl
theorem tyL60 : Elem Tryz.prog 60 9 1 16 := Elem.mk (z := .string ⟨#[]⟩) (by kernel_rfl) (by kernel_rfl) rfl (by decide)
theorem tyE76 : tyE Tryz.prog 76 = some (5, 1) := by kernel_rfl
theorem tyL76 : Elem Tryz.prog 76 5 1 1 := Elem.mk (z := .int .u8 0) (by kernel_rfl) (by kernel_rfl) rfl (by decide)
theorem tyE128 : tyE Tryz.prog 128 = some (174, 5) := by kernel_rfl
theorem tyL128 : Elem Tryz.prog 128 174 5 20 := Elem.mk (z := .agg #[.int .u32 0, .int .u32 0, .int .i32 0, .int .i32 0, .int .i32 0]) (by kernel_rfl) (by kernel_rfl) rfl (by decide)
theorem tyE159 : tyE Tryz.prog 159 = some (161, 2) := by kernel_rfl
theorem tyL159 : Elem Tryz.prog 159 161 2 4 := Elem.mk (z := .agg #[.int .u16 0, .int .u16 0]) (by kernel_rfl) (by kernel_rfl) rfl (by decide)
theorem tyU2 : Tryz.prog.underlying 2 = some (.int .i64) := by kernel_rfl
theorem tyU3 : Tryz.prog.underlying 3 = some (.int .i64) := by kernel_rfl
theorem tyU4 : Tryz.prog.underlying 4 = some .bool := by kernel_rfl
theorem tyU5 : Tryz.prog.underlying 5 = some (.int .u8) := by kernel_rfl
theorem tyU9 : Tryz.prog.underlying 9 = some .string := by kernel_rfl
theorem tyU21 : Tryz.prog.underlying 21 = some (.int .i32) := by kernel_rfl
theorem tyU22 : Tryz.prog.underlying 22 = some (.slice 3) := by kernel_rfl
theorem tyU23 : Tryz.prog.underlying 23 = some (.pointer 25) := by kernel_rfl
theorem tyU26 : Tryz.prog.underlying 26 = some (.slice 49) := by kernel_rfl
theorem tyU32 : Tryz.prog.underlying 32 = some (.slice 44) := by kernel_rfl
theorem tyU33 : Tryz.prog.underlying 33 = some (.int .i64) := by kernel_rfl
theorem tyU60 : Tryz.prog.underlying 60 = some (.slice 9) := by kernel_rfl
theorem tyU75 : Tryz.prog.underlying 75 = some (.pointer 78) := by kernel_rfl
theorem tyU76 : Tryz.prog.underlying 76 = some (.slice 5) := by kernel_rfl
theorem tyU91 : Tryz.prog.underlying 91 = some (.array 256 4) := by kernel_rfl
theorem tyU95 : Tryz.prog.underlying 95 = some (.pointer 91) := by kernel_rfl
theorem tyU103 : Tryz.prog.underlying 103 = some (.pointer 5) := by kernel_rfl
theorem tyU119 : Tryz.prog.underlying 119 = some (.int .u64) := by kernel_rfl
theorem tyU128 : Tryz.prog.underlying 128 = some (.slice 174) := by kernel_rfl
theorem tyU131 : Tryz.prog.underlying 131 = some (.array 24 5) := by kernel_rfl
theorem tyU132 : Tryz.prog.underlying 132 = some (.int .u64) := by kernel_rfl
theorem tyU145 : Tryz.prog.underlying 145 = some (.int .u32) := by kernel_rfl
theorem tyU150 : Tryz.prog.underlying 150 = some (.array 256 5) := by kernel_rfl
theorem tyU153 : Tryz.prog.underlying 153 = some (.array 16 152) := by kernel_rfl
theorem tyU154 : Tryz.prog.underlying 154 = some (.pointer 174) := by kernel_rfl
theorem tyU157 : Tryz.prog.underlying 157 = some (.int .u16) := by kernel_rfl
theorem tyU158 : Tryz.prog.underlying 158 = some (.array 128 157) := by kernel_rfl
theorem tyU159 : Tryz.prog.underlying 159 = some (.slice 161) := by kernel_rfl
theorem tyU165 : Tryz.prog.underlying 165 = some (.array 20 132) := by kernel_rfl
theorem tyU166 : Tryz.prog.underlying 166 = some (.array 65 5) := by kernel_rfl
theorem tyU172 : Tryz.prog.underlying 172 = some (.array 3 21) := by kernel_rfl
theorem tyU180 : Tryz.prog.underlying 180 = some (.array 32 5) := by kernel_rfl
theorem tyU181 : Tryz.prog.underlying 181 = some (.array 64 5) := by kernel_rfl
theorem tyQ29 : tyQ Tryz.prog 29 = some [.string, .string, .string, .string, .int .i64, .bool, .bool] := by kernel_rfl
theorem tyQ44 : tyQ Tryz.prog 44 = some [.string, .string] := by kernel_rfl
end Go.Proofs.YthodoodnkohdaaaGreatDoor
