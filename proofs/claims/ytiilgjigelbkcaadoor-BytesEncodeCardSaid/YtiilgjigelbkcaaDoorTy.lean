/- Facts on the types of the program: read off its tables. Printed by a program. -/
import Derived.Test.YtiilgjigelbkcaaDoorRows
import Derived.Test.YtiilgjigelbkcaaDoorMb
namespace Go.Proofs.YtiilgjigelbkcaaDoor

theorem mixed : Tryd.prog.follows .mixedOrders = true := by kernel_rfl
theorem tyS3 : tyS Tryd.prog 3 = some (false, 1) := by kernel_rfl
theorem tyS5 : tyS Tryd.prog 5 = some (false, 1) := by kernel_rfl
theorem tyS9 : tyS Tryd.prog 9 = some (false, 1) := by kernel_rfl
theorem tyS22 : tyS Tryd.prog 22 = some (false, 1) := by kernel_rfl
theorem tyS25 : tyS Tryd.prog 25 = some (true, 2) := by kernel_rfl
theorem tyS26 : tyS Tryd.prog 26 = some (false, 1) := by kernel_rfl
theorem tyS42 : tyS Tryd.prog 42 = some (false, 1) := by kernel_rfl
theorem tyS50 : tyS Tryd.prog 50 = some (false, 1) := by kernel_rfl
theorem tyS58 : tyS Tryd.prog 58 = some (false, 1) := by kernel_rfl
theorem tyS60 : tyS Tryd.prog 60 = some (true, 2) := by kernel_rfl
theorem tyS68 : tyS Tryd.prog 68 = some (true, 24) := by kernel_rfl
theorem tyS86 : tyS Tryd.prog 86 = some (true, 20) := by kernel_rfl
theorem tyS87 : tyS Tryd.prog 87 = some (true, 65) := by kernel_rfl
theorem tyS92 : tyS Tryd.prog 92 = some (true, 3) := by kernel_rfl
theorem tyS100 : tyS Tryd.prog 100 = some (true, 1) := by kernel_rfl
theorem tyS101 : tyS Tryd.prog 101 = some (true, 32) := by kernel_rfl
theorem tyS102 : tyS Tryd.prog 102 = some (true, 64) := by kernel_rfl
theorem tyP25 : tyP Tryd.prog 25 = some [(0, 1), (1, 1)] := by kernel_rfl
theorem tyP60 : tyP Tryd.prog 60 = some [(0, 1), (1, 1)] := by kernel_rfl
theorem tyP92 : tyP Tryd.prog 92 = some [(0, 1), (1, 1), (2, 1)] := by kernel_rfl
theorem tyP100 : tyP Tryd.prog 100 = some [(0, 1)] := by kernel_rfl
theorem tyZ3 : tyZ Tryd.prog 3 = some [.int .i64 0] := by kernel_rfl
theorem tyZ5 : tyZ Tryd.prog 5 = some [.int .u8 0] := by kernel_rfl
theorem tyZ9 : tyZ Tryd.prog 9 = some [.string ⟨#[]⟩] := by kernel_rfl
theorem tyZ25 : tyZ Tryd.prog 25 = some [.slice none 0 0, .int .i64 0] := by kernel_rfl
theorem tyZ60 : tyZ Tryd.prog 60 = some [.pointer none, .slice none 0 0] := by kernel_rfl
theorem tyZ68 : tyZ Tryd.prog 68 = some [.int .u8 0, .int .u8 0, .int .u8 0, .int .u8 0, .int .u8 0, .int .u8 0, .int .u8 0, .int .u8 0, .int .u8 0, .int .u8 0, .int .u8 0, .int .u8 0, .int .u8 0, .int .u8 0, .int .u8 0, .int .u8 0, .int .u8 0, .int .u8 0, .int .u8 0, .int .u8 0, .int .u8 0, .int .u8 0, .int .u8 0, .int .u8 0] := by kernel_rfl
theorem tyZ86 : tyZ Tryd.prog 86 = some [.int .u64 0, .int .u64 0, .int .u64 0, .int .u64 0, .int .u64 0, .int .u64 0, .int .u64 0, .int .u64 0, .int .u64 0, .int .u64 0, .int .u64 0, .int .u64 0, .int .u64 0, .int .u64 0, .int .u64 0, .int .u64 0, .int .u64 0, .int .u64 0, .int .u64 0, .int .u64 0] := by kernel_rfl
theorem tyZ92 : tyZ Tryd.prog 92 = some [.string ⟨#[]⟩, .string ⟨#[]⟩, .nilIface] := by kernel_rfl
theorem tyZ100 : tyZ Tryd.prog 100 = some [.string ⟨#[]⟩] := by kernel_rfl
theorem tyZ101 : tyZ Tryd.prog 101 = some [.int .u8 0, .int .u8 0, .int .u8 0, .int .u8 0, .int .u8 0, .int .u8 0, .int .u8 0, .int .u8 0, .int .u8 0, .int .u8 0, .int .u8 0, .int .u8 0, .int .u8 0, .int .u8 0, .int .u8 0, .int .u8 0, .int .u8 0, .int .u8 0, .int .u8 0, .int .u8 0, .int .u8 0, .int .u8 0, .int .u8 0, .int .u8 0, .int .u8 0, .int .u8 0, .int .u8 0, .int .u8 0, .int .u8 0, .int .u8 0, .int .u8 0, .int .u8 0] := by kernel_rfl
theorem tyZ102 : tyZ Tryd.prog 102 = some [.int .u8 0, .int .u8 0, .int .u8 0, .int .u8 0, .int .u8 0, .int .u8 0, .int .u8 0, .int .u8 0, .int .u8 0, .int .u8 0, .int .u8 0, .int .u8 0, .int .u8 0, .int .u8 0, .int .u8 0, .int .u8 0, .int .u8 0, .int .u8 0, .int .u8 0, .int .u8 0, .int .u8 0, .int .u8 0, .int .u8 0, .int .u8 0, .int .u8 0, .int .u8 0, .int .u8 0, .int .u8 0, .int .u8 0, .int .u8 0, .int .u8 0, .int .u8 0, .int .u8 0, .int .u8 0, .int .u8 0, .int .u8 0, .int .u8 0, .int .u8 0, .int .u8 0, .int .u8 0, .int .u8 0, .int .u8 0, .int .u8 0, .int .u8 0, .int .u8 0, .int .u8 0, .int .u8 0, .int .u8 0, .int .u8 0, .int .u8 0, .int .u8 0, .int .u8 0, .int .u8 0, .int .u8 0, .int .u8 0, .int .u8 0, .int .u8 0, .int .u8 0, .int .u8 0, .int .u8 0, .int .u8 0, .int .u8 0, .int .u8 0, .int .u8 0] := by kernel_rfl
theorem tyF25_0 : tyF Tryd.prog 25 0 = some (0, 22) := by kernel_rfl
theorem tyF25_1 : tyF Tryd.prog 25 1 = some (1, 3) := by kernel_rfl
theorem tyF60_0 : tyF Tryd.prog 60 0 = some (0, 58) := by kernel_rfl
theorem tyF60_1 : tyF Tryd.prog 60 1 = some (1, 26) := by kernel_rfl
theorem tyE22 : tyE Tryd.prog 22 = some (3, 1) := by kernel_rfl
theorem tyL22 : Elem Tryd.prog 22 3 1 8 := Elem.mk (z := .int .i64 0) (by kernel_rfl) (by kernel_rfl) rfl (by decide)
theorem tyE26 : tyE Tryd.prog 26 = some (5, 1) := by kernel_rfl
theorem tyL26 : Elem Tryd.prog 26 5 1 1 := Elem.mk (z := .int .u8 0) (by kernel_rfl) (by kernel_rfl) rfl (by decide)
theorem tyE54 : tyE Tryd.prog 54 = some (9, 1) := by kernel_rfl
theorem tyL54 : Elem Tryd.prog 54 9 1 16 := Elem.mk (z := .string ⟨#[]⟩) (by kernel_rfl) (by kernel_rfl) rfl (by decide)
theorem tyU2 : Tryd.prog.underlying 2 = some (.int .i64) := by kernel_rfl
theorem tyU3 : Tryd.prog.underlying 3 = some (.int .i64) := by kernel_rfl
theorem tyU4 : Tryd.prog.underlying 4 = some .bool := by kernel_rfl
theorem tyU5 : Tryd.prog.underlying 5 = some (.int .u8) := by kernel_rfl
theorem tyU9 : Tryd.prog.underlying 9 = some .string := by kernel_rfl
theorem tyU21 : Tryd.prog.underlying 21 = some (.int .i32) := by kernel_rfl
theorem tyU22 : Tryd.prog.underlying 22 = some (.slice 3) := by kernel_rfl
theorem tyU23 : Tryd.prog.underlying 23 = some (.pointer 25) := by kernel_rfl
theorem tyU26 : Tryd.prog.underlying 26 = some (.slice 5) := by kernel_rfl
theorem tyU32 : Tryd.prog.underlying 32 = some (.int .i64) := by kernel_rfl
theorem tyU47 : Tryd.prog.underlying 47 = some (.int .u64) := by kernel_rfl
theorem tyU50 : Tryd.prog.underlying 50 = some (.int .u64) := by kernel_rfl
theorem tyU54 : Tryd.prog.underlying 54 = some (.slice 9) := by kernel_rfl
theorem tyU58 : Tryd.prog.underlying 58 = some (.pointer 60) := by kernel_rfl
theorem tyU68 : Tryd.prog.underlying 68 = some (.array 24 5) := by kernel_rfl
theorem tyU79 : Tryd.prog.underlying 79 = some (.int .u32) := by kernel_rfl
theorem tyU84 : Tryd.prog.underlying 84 = some (.pointer 5) := by kernel_rfl
theorem tyU86 : Tryd.prog.underlying 86 = some (.array 20 50) := by kernel_rfl
theorem tyU87 : Tryd.prog.underlying 87 = some (.array 65 5) := by kernel_rfl
theorem tyU101 : Tryd.prog.underlying 101 = some (.array 32 5) := by kernel_rfl
theorem tyU102 : Tryd.prog.underlying 102 = some (.array 64 5) := by kernel_rfl
end Go.Proofs.YtiilgjigelbkcaaDoor
