/- Facts on the types of the program: read off its tables. Printed by a program. -/
import Derived.Test.YthgblfklceopgaaGreatDoorRows
import Derived.Test.YthgblfklceopgaaGreatDoorMb
namespace Go.Proofs.YthgblfklceopgaaGreatDoor

theorem mixed : Tryz.prog.follows .mixedOrders = true := by kernel_rfl
theorem tyS3 : tyS Tryz.prog 3 = some (false, 1) := by kernel_rfl
theorem tyS4 : tyS Tryz.prog 4 = some (false, 1) := by kernel_rfl
theorem tyS5 : tyS Tryz.prog 5 = some (false, 1) := by kernel_rfl
theorem tyS9 : tyS Tryz.prog 9 = some (false, 1) := by kernel_rfl
theorem z3i : tyS Tryz.prog 22 = some (false, 1) := by kernel_rfl
theorem zsf : tyS Tryz.prog 26 = some (false, 1) := by kernel_rfl
theorem zkd : tyS Tryz.prog 28 = some (true, 8) := by kernel_rfl
theorem z83 : tyS Tryz.prog 32 = some (false, 1) := by kernel_rfl
theorem zts : tyS Tryz.prog 36 = some (false, 1) := by kernel_rfl
theorem zng : tyS Tryz.prog 52 = some (true, 2) := by kernel_rfl
theorem zp5 : tyS Tryz.prog 68 = some (true, 2) := by kernel_rfl
theorem z3h : tyS Tryz.prog 90 = some (false, 1) := by kernel_rfl
theorem zy0 : tyS Tryz.prog 119 = some (true, 2) := by kernel_rfl
theorem z85 : tyP Tryz.prog 25 = some [(0, 1), (1, 1)] := by kernel_rfl
theorem zvk : tyP Tryz.prog 28 = some [(0, 1), (1, 1), (2, 1), (3, 1), (4, 1), (5, 1), (6, 1), (7, 1)] := by kernel_rfl
theorem zvj : tyP Tryz.prog 52 = some [(0, 1), (1, 1)] := by kernel_rfl
theorem z3j : tyP Tryz.prog 68 = some [(0, 1), (1, 1)] := by kernel_rfl
theorem z5g : tyP Tryz.prog 119 = some [(0, 1), (1, 1)] := by kernel_rfl
theorem tyZ3 : tyZ Tryz.prog 3 = some [.int .i64 0] := by kernel_rfl
theorem z81 : tyZ Tryz.prog 25 = some [.slice none 0 0, .int .i64 0] := by kernel_rfl
theorem zph : tyZ Tryz.prog 28 = some [.int .i64 0, .string ⟨#[]⟩, .string ⟨#[]⟩, .string ⟨#[]⟩, .string ⟨#[]⟩, .string ⟨#[]⟩, .slice none 0 0, .string ⟨#[]⟩] := by kernel_rfl
theorem z71 : tyZ Tryz.prog 36 = some [.slice none 0 0] := by kernel_rfl
theorem zp4 : tyZ Tryz.prog 52 = some [.string ⟨#[]⟩, .string ⟨#[]⟩] := by kernel_rfl
theorem zwq : tyZ Tryz.prog 68 = some [.string ⟨#[]⟩, .string ⟨#[]⟩] := by kernel_rfl
theorem z6b : tyZ Tryz.prog 92 = some [.pointer none, .slice none 0 0] := by kernel_rfl
theorem zyz : tyZ Tryz.prog 119 = some [.int .u8 0, .bool false] := by kernel_rfl
theorem zvm : tyF Tryz.prog 25 0 = some (0, 22) := by kernel_rfl
theorem ztw : tyF Tryz.prog 25 1 = some (1, 3) := by kernel_rfl
theorem ztv : tyF Tryz.prog 28 0 = some (0, 3) := by kernel_rfl
theorem zpm : tyF Tryz.prog 28 1 = some (1, 9) := by kernel_rfl
theorem zpl : tyF Tryz.prog 28 2 = some (2, 9) := by kernel_rfl
theorem zpk : tyF Tryz.prog 28 3 = some (3, 9) := by kernel_rfl
theorem zpj : tyF Tryz.prog 28 4 = some (4, 9) := by kernel_rfl
theorem ztu : tyF Tryz.prog 28 5 = some (5, 9) := by kernel_rfl
theorem zm0 : tyF Tryz.prog 28 6 = some (6, 26) := by kernel_rfl
theorem zsg : tyF Tryz.prog 28 7 = some (7, 9) := by kernel_rfl
theorem zoc : tyF Tryz.prog 52 0 = some (0, 9) := by kernel_rfl
theorem ztt : tyF Tryz.prog 52 1 = some (1, 9) := by kernel_rfl
theorem zno : tyF Tryz.prog 68 0 = some (0, 9) := by kernel_rfl
theorem zqf : tyF Tryz.prog 68 1 = some (1, 9) := by kernel_rfl
theorem zvl : tyF Tryz.prog 92 1 = some (1, 90) := by kernel_rfl
theorem zrz : tyF Tryz.prog 119 0 = some (0, 5) := by kernel_rfl
theorem z3l : tyF Tryz.prog 119 1 = some (1, 4) := by kernel_rfl
theorem z79 : tyE Tryz.prog 22 = some (3, 1) := by kernel_rfl
theorem z6c : Elem Tryz.prog 22 3 1 8 := Elem.mk (z := .int .i64 0) (by kernel_rfl) (by kernel_rfl) rfl (by decide)
theorem zp6 : tyE Tryz.prog 26 = some (52, 2) := by kernel_rfl
theorem zob : Elem Tryz.prog 26 52 2 32 := Elem.mk (z := .agg #[.string ⟨#[]⟩, .string ⟨#[]⟩]) (by kernel_rfl) (by kernel_rfl) rfl (by decide)
theorem zut : tyE Tryz.prog 36 = some (9, 1) := by kernel_rfl
theorem zlg : Elem Tryz.prog 36 9 1 16 := Elem.mk (z := .string ⟨#[]⟩) (by kernel_rfl) (by kernel_rfl) rfl (by decide)
theorem zsh : tyE Tryz.prog 64 = some (68, 2) := by kernel_rfl
theorem z3k : Elem Tryz.prog 64 68 2 32 := Elem.mk (z := .agg #[.string ⟨#[]⟩, .string ⟨#[]⟩]) (by kernel_rfl) (by kernel_rfl) rfl (by decide)
theorem z86 : tyE Tryz.prog 77 = some (32, 1) := by kernel_rfl
theorem z74 : Elem Tryz.prog 77 32 1 8 := Elem.mk (z := .int .i64 0) (by kernel_rfl) (by kernel_rfl) rfl (by decide)
theorem z78 : tyE Tryz.prog 90 = some (5, 1) := by kernel_rfl
theorem zus : Elem Tryz.prog 90 5 1 1 := Elem.mk (z := .int .u8 0) (by kernel_rfl) (by kernel_rfl) rfl (by decide)
theorem z5h : tyE Tryz.prog 115 = some (119, 2) := by kernel_rfl
theorem zy1 : Elem Tryz.prog 115 119 2 2 := Elem.mk (z := .agg #[.int .u8 0, .bool false]) (by kernel_rfl) (by kernel_rfl) rfl (by decide)
theorem tyU2 : Tryz.prog.underlying 2 = some (.int .i64) := by kernel_rfl
theorem tyU3 : Tryz.prog.underlying 3 = some (.int .i64) := by kernel_rfl
theorem tyU5 : Tryz.prog.underlying 5 = some (.int .u8) := by kernel_rfl
theorem tyU9 : Tryz.prog.underlying 9 = some .string := by kernel_rfl
theorem zz4 : Tryz.prog.underlying 21 = some (.int .i32) := by kernel_rfl
theorem z3g : Tryz.prog.underlying 22 = some (.slice 3) := by kernel_rfl
theorem zpi : Tryz.prog.underlying 26 = some (.slice 52) := by kernel_rfl
theorem zse : Tryz.prog.underlying 36 = some (.slice 9) := by kernel_rfl
theorem ztr : Tryz.prog.underlying 64 = some (.slice 68) := by kernel_rfl
theorem z82 : Tryz.prog.underlying 77 = some (.slice 32) := by kernel_rfl
theorem z3f : Tryz.prog.underlying 86 = some (.int .u64) := by kernel_rfl
theorem zwr : Tryz.prog.underlying 90 = some (.slice 5) := by kernel_rfl
theorem z5e : Tryz.prog.underlying 115 = some (.slice 119) := by kernel_rfl
theorem z5d : Tryz.prog.underlying 137 = some (.int .u32) := by kernel_rfl
theorem zry : Tryz.prog.underlying 140 = some (.int .u64) := by kernel_rfl
theorem z84 : tyQ Tryz.prog 52 = some [.string, .string] := by kernel_rfl
theorem z73 : tyQ Tryz.prog 68 = some [.string, .string] := by kernel_rfl
end Go.Proofs.YthgblfklceopgaaGreatDoor
