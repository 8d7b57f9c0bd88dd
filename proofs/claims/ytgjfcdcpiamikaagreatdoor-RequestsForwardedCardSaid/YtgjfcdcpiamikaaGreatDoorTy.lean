/- Facts on the types of the program: read off its tables. Printed by a program. -/
import Derived.Test.YtgjfcdcpiamikaaGreatDoorRows
import Derived.Test.YtgjfcdcpiamikaaGreatDoorMb
namespace Go.Proofs.YtgjfcdcpiamikaaGreatDoor

theorem mixed : Tryz.prog.follows .mixedOrders = true := by kernel_rfl
theorem tyS3 : tyS Tryz.prog 3 = some (false, 1) := by kernel_rfl
theorem tyS4 : tyS Tryz.prog 4 = some (false, 1) := by kernel_rfl
theorem tyS5 : tyS Tryz.prog 5 = some (false, 1) := by kernel_rfl
theorem tyS9 : tyS Tryz.prog 9 = some (false, 1) := by kernel_rfl
theorem tyS21 : tyS Tryz.prog 21 = some (false, 1) := by kernel_rfl
theorem tyS22 : tyS Tryz.prog 22 = some (false, 1) := by kernel_rfl
theorem tyS25 : tyS Tryz.prog 25 = some (true, 2) := by kernel_rfl
theorem tyS26 : tyS Tryz.prog 26 = some (false, 1) := by kernel_rfl
theorem tyS28 : tyS Tryz.prog 28 = some (true, 8) := by kernel_rfl
theorem tyS31 : tyS Tryz.prog 31 = some (false, 1) := by kernel_rfl
theorem tyS34 : tyS Tryz.prog 34 = some (false, 1) := by kernel_rfl
theorem tyS54 : tyS Tryz.prog 54 = some (true, 2) := by kernel_rfl
theorem tyS77 : tyS Tryz.prog 77 = some (false, 1) := by kernel_rfl
theorem tyS78 : tyS Tryz.prog 78 = some (false, 1) := by kernel_rfl
theorem tyS80 : tyS Tryz.prog 80 = some (true, 2) := by kernel_rfl
theorem tyS83 : tyS Tryz.prog 83 = some (false, 1) := by kernel_rfl
theorem tyS104 : tyS Tryz.prog 104 = some (false, 1) := by kernel_rfl
theorem tyS107 : tyS Tryz.prog 107 = some (false, 1) := by kernel_rfl
theorem tyS119 : tyS Tryz.prog 119 = some (true, 256) := by kernel_rfl
theorem tyS147 : tyS Tryz.prog 147 = some (false, 1) := by kernel_rfl
theorem tyS149 : tyS Tryz.prog 149 = some (false, 1) := by kernel_rfl
theorem tyS151 : tyS Tryz.prog 151 = some (true, 2) := by kernel_rfl
theorem tyS154 : tyS Tryz.prog 154 = some (false, 1) := by kernel_rfl
theorem tyS163 : tyS Tryz.prog 163 = some (true, 2) := by kernel_rfl
theorem tyS166 : tyS Tryz.prog 166 = some (true, 3) := by kernel_rfl
theorem tyS168 : tyS Tryz.prog 168 = some (true, 5) := by kernel_rfl
theorem tyS179 : tyS Tryz.prog 179 = some (true, 3) := by kernel_rfl
theorem tyS181 : tyS Tryz.prog 181 = some (true, 24) := by kernel_rfl
theorem tyS188 : tyS Tryz.prog 188 = some (true, 1) := by kernel_rfl
theorem tyS191 : tyS Tryz.prog 191 = some (true, 65) := by kernel_rfl
theorem tyP25 : tyP Tryz.prog 25 = some [(0, 1), (1, 1)] := by kernel_rfl
theorem tyP28 : tyP Tryz.prog 28 = some [(0, 1), (1, 1), (2, 1), (3, 1), (4, 1), (5, 1), (6, 1), (7, 1)] := by kernel_rfl
theorem tyP54 : tyP Tryz.prog 54 = some [(0, 1), (1, 1)] := by kernel_rfl
theorem tyP80 : tyP Tryz.prog 80 = some [(0, 1), (1, 1)] := by kernel_rfl
theorem tyP151 : tyP Tryz.prog 151 = some [(0, 1), (1, 1)] := by kernel_rfl
theorem tyP163 : tyP Tryz.prog 163 = some [(0, 1), (1, 1)] := by kernel_rfl
theorem tyP168 : tyP Tryz.prog 168 = some [(0, 1), (1, 1), (2, 3)] := by kernel_rfl
theorem tyP179 : tyP Tryz.prog 179 = some [(0, 1), (1, 1), (2, 1)] := by kernel_rfl
theorem tyP188 : tyP Tryz.prog 188 = some [(0, 1)] := by kernel_rfl
theorem tyZ3 : tyZ Tryz.prog 3 = some [.int .i64 0] := by kernel_rfl
theorem tyZ5 : tyZ Tryz.prog 5 = some [.int .u8 0] := by kernel_rfl
theorem tyZ9 : tyZ Tryz.prog 9 = some [.string ⟨#[]⟩] := by kernel_rfl
theorem tyZ25 : tyZ Tryz.prog 25 = some [.slice none 0 0, .int .i64 0] := by kernel_rfl
theorem tyZ28 : tyZ Tryz.prog 28 = some [.int .i64 0, .string ⟨#[]⟩, .string ⟨#[]⟩, .string ⟨#[]⟩, .string ⟨#[]⟩, .string ⟨#[]⟩, .slice none 0 0, .string ⟨#[]⟩] := by kernel_rfl
theorem tyZ31 : tyZ Tryz.prog 31 = some [.slice none 0 0] := by kernel_rfl
theorem tyZ34 : tyZ Tryz.prog 34 = some [.int .i64 0] := by kernel_rfl
theorem tyZ54 : tyZ Tryz.prog 54 = some [.string ⟨#[]⟩, .string ⟨#[]⟩] := by kernel_rfl
theorem tyZ80 : tyZ Tryz.prog 80 = some [.pointer none, .slice none 0 0] := by kernel_rfl
theorem tyZ151 : tyZ Tryz.prog 151 = some [.int .u16 0, .int .u16 0] := by kernel_rfl
theorem tyZ163 : tyZ Tryz.prog 163 = some [.int .u8 0, .int .u8 0] := by kernel_rfl
theorem tyZ168 : tyZ Tryz.prog 168 = some [.int .u32 0, .int .u32 0, .int .i32 0, .int .i32 0, .int .i32 0] := by kernel_rfl
theorem tyZ179 : tyZ Tryz.prog 179 = some [.string ⟨#[]⟩, .string ⟨#[]⟩, .nilIface] := by kernel_rfl
theorem tyZ181 : tyZ Tryz.prog 181 = some [.int .u8 0, .int .u8 0, .int .u8 0, .int .u8 0, .int .u8 0, .int .u8 0, .int .u8 0, .int .u8 0, .int .u8 0, .int .u8 0, .int .u8 0, .int .u8 0, .int .u8 0, .int .u8 0, .int .u8 0, .int .u8 0, .int .u8 0, .int .u8 0, .int .u8 0, .int .u8 0, .int .u8 0, .int .u8 0, .int .u8 0, .int .u8 0] := by kernel_rfl
theorem tyZ188 : tyZ Tryz.prog 188 = some [.string ⟨#[]⟩] := by kernel_rfl
theorem tyF25_0 : tyF Tryz.prog 25 0 = some (0, 22) := by kernel_rfl
theorem tyF25_1 : tyF Tryz.prog 25 1 = some (1, 3) := by kernel_rfl
theorem tyF28_0 : tyF Tryz.prog 28 0 = some (0, 3) := by kernel_rfl
theorem tyF28_1 : tyF Tryz.prog 28 1 = some (1, 9) := by kernel_rfl
theorem tyF28_2 : tyF Tryz.prog 28 2 = some (2, 9) := by kernel_rfl
theorem tyF28_3 : tyF Tryz.prog 28 3 = some (3, 9) := by kernel_rfl
theorem tyF28_4 : tyF Tryz.prog 28 4 = some (4, 9) := by kernel_rfl
theorem tyF28_5 : tyF Tryz.prog 28 5 = some (5, 9) := by kernel_rfl
theorem tyF28_6 : tyF Tryz.prog 28 6 = some (6, 26) := by kernel_rfl
theorem tyF28_7 : tyF Tryz.prog 28 7 = some (7, 9) := by kernel_rfl
theorem tyF54_0 : tyF Tryz.prog 54 0 = some (0, 9) := by kernel_rfl
theorem tyF54_1 : tyF Tryz.prog 54 1 = some (1, 9) := by kernel_rfl
theorem tyF80_0 : tyF Tryz.prog 80 0 = some (0, 77) := by kernel_rfl
theorem tyF80_1 : tyF Tryz.prog 80 1 = some (1, 78) := by kernel_rfl
theorem tyF151_0 : tyF Tryz.prog 151 0 = some (0, 147) := by kernel_rfl
theorem tyF151_1 : tyF Tryz.prog 151 1 = some (1, 147) := by kernel_rfl
theorem tyF163_0 : tyF Tryz.prog 163 0 = some (0, 5) := by kernel_rfl
theorem tyF163_1 : tyF Tryz.prog 163 1 = some (1, 5) := by kernel_rfl
theorem tyF168_0 : tyF Tryz.prog 168 0 = some (0, 104) := by kernel_rfl
theorem tyF168_1 : tyF Tryz.prog 168 1 = some (1, 104) := by kernel_rfl
theorem tyF168_2 : tyF Tryz.prog 168 2 = some (2, 166) := by kernel_rfl
theorem tyE22 : tyE Tryz.prog 22 = some (3, 1) := by kernel_rfl
theorem tyL22 : Elem Tryz.prog 22 3 1 8 := Elem.mk (z := .int .i64 0) (by kernel_rfl) (by kernel_rfl) rfl (by decide)
theorem tyE26 : tyE Tryz.prog 26 = some (54, 2) := by kernel_rfl
theorem tyL26 : Elem Tryz.prog 26 54 2 32 := Elem.mk (z := .agg #[.string ⟨#[]⟩, .string ⟨#[]⟩]) (by kernel_rfl) (by kernel_rfl) rfl (by decide)
theorem tyE31 : tyE Tryz.prog 31 = some (9, 1) := by kernel_rfl
theorem tyL31 : Elem Tryz.prog 31 9 1 16 := Elem.mk (z := .string ⟨#[]⟩) (by kernel_rfl) (by kernel_rfl) rfl (by decide)
theorem tyE78 : tyE Tryz.prog 78 = some (5, 1) := by kernel_rfl
theorem tyL78 : Elem Tryz.prog 78 5 1 1 := Elem.mk (z := .int .u8 0) (by kernel_rfl) (by kernel_rfl) rfl (by decide)
theorem tyE93 : tyE Tryz.prog 93 = some (31, 1) := by kernel_rfl
theorem tyL93 : Elem Tryz.prog 93 31 1 24 := Elem.mk (z := .slice none 0 0) (by kernel_rfl) (by kernel_rfl) rfl (by decide)
theorem tyE149 : tyE Tryz.prog 149 = some (151, 2) := by kernel_rfl
theorem tyL149 : Elem Tryz.prog 149 151 2 4 := Elem.mk (z := .agg #[.int .u16 0, .int .u16 0]) (by kernel_rfl) (by kernel_rfl) rfl (by decide)
theorem tyE154 : tyE Tryz.prog 154 = some (168, 5) := by kernel_rfl
theorem tyL154 : Elem Tryz.prog 154 168 5 20 := Elem.mk (z := .agg #[.int .u32 0, .int .u32 0, .int .i32 0, .int .i32 0, .int .i32 0]) (by kernel_rfl) (by kernel_rfl) rfl (by decide)
theorem tyU2 : Tryz.prog.underlying 2 = some (.int .i64) := by kernel_rfl
theorem tyU3 : Tryz.prog.underlying 3 = some (.int .i64) := by kernel_rfl
theorem tyU4 : Tryz.prog.underlying 4 = some .bool := by kernel_rfl
theorem tyU5 : Tryz.prog.underlying 5 = some (.int .u8) := by kernel_rfl
theorem tyU9 : Tryz.prog.underlying 9 = some .string := by kernel_rfl
theorem tyU21 : Tryz.prog.underlying 21 = some (.int .i32) := by kernel_rfl
theorem tyU22 : Tryz.prog.underlying 22 = some (.slice 3) := by kernel_rfl
theorem tyU23 : Tryz.prog.underlying 23 = some (.pointer 25) := by kernel_rfl
theorem tyU26 : Tryz.prog.underlying 26 = some (.slice 54) := by kernel_rfl
theorem tyU31 : Tryz.prog.underlying 31 = some (.slice 9) := by kernel_rfl
theorem tyU34 : Tryz.prog.underlying 34 = some (.int .i64) := by kernel_rfl
theorem tyU74 : Tryz.prog.underlying 74 = some (.int .u64) := by kernel_rfl
theorem tyU77 : Tryz.prog.underlying 77 = some (.pointer 80) := by kernel_rfl
theorem tyU78 : Tryz.prog.underlying 78 = some (.slice 5) := by kernel_rfl
theorem tyU93 : Tryz.prog.underlying 93 = some (.slice 31) := by kernel_rfl
theorem tyU104 : Tryz.prog.underlying 104 = some (.int .u32) := by kernel_rfl
theorem tyU107 : Tryz.prog.underlying 107 = some (.int .u64) := by kernel_rfl
theorem tyU110 : Tryz.prog.underlying 110 = some (.pointer 5) := by kernel_rfl
theorem tyU119 : Tryz.prog.underlying 119 = some (.array 256 4) := by kernel_rfl
theorem tyU123 : Tryz.prog.underlying 123 = some (.pointer 119) := by kernel_rfl
theorem tyU147 : Tryz.prog.underlying 147 = some (.int .u16) := by kernel_rfl
theorem tyU148 : Tryz.prog.underlying 148 = some (.array 128 147) := by kernel_rfl
theorem tyU149 : Tryz.prog.underlying 149 = some (.slice 151) := by kernel_rfl
theorem tyU152 : Tryz.prog.underlying 152 = some (.pointer 168) := by kernel_rfl
theorem tyU154 : Tryz.prog.underlying 154 = some (.slice 168) := by kernel_rfl
theorem tyU161 : Tryz.prog.underlying 161 = some (.array 256 5) := by kernel_rfl
theorem tyU164 : Tryz.prog.underlying 164 = some (.array 16 163) := by kernel_rfl
theorem tyU166 : Tryz.prog.underlying 166 = some (.array 3 21) := by kernel_rfl
theorem tyU181 : Tryz.prog.underlying 181 = some (.array 24 5) := by kernel_rfl
theorem tyU190 : Tryz.prog.underlying 190 = some (.array 20 107) := by kernel_rfl
theorem tyU191 : Tryz.prog.underlying 191 = some (.array 65 5) := by kernel_rfl
theorem tyU194 : Tryz.prog.underlying 194 = some (.array 32 5) := by kernel_rfl
theorem tyU195 : Tryz.prog.underlying 195 = some (.array 64 5) := by kernel_rfl
theorem tyQ54 : tyQ Tryz.prog 54 = some [.string, .string] := by kernel_rfl
end Go.Proofs.YtgjfcdcpiamikaaGreatDoor
