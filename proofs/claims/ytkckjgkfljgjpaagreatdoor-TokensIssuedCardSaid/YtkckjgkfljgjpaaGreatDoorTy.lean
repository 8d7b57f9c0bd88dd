/- Facts on the types of the program: read off its tables. Printed by a program. -/
import Derived.Test.YtkckjgkfljgjpaaGreatDoorRows
import Derived.Test.YtkckjgkfljgjpaaGreatDoorMb
namespace Go.Proofs.YtkckjgkfljgjpaaGreatDoor

theorem mixed:Tryz.prog.follows .mixedOrders=true:=by kernel_rfl
theorem tyS3:tyS Tryz.prog 3=some (false,1):=by kernel_rfl
theorem tyS4:tyS Tryz.prog 4=some (false,1):=by kernel_rfl
theorem tyS5:tyS Tryz.prog 5=some (false,1):=by kernel_rfl
theorem tyS9:tyS Tryz.prog 9=some (false,1):=by kernel_rfl
theorem w0v:tyS Tryz.prog 22=some (false,1):=by kernel_rfl
theorem w44:tyS Tryz.prog 26=some (false,1):=by kernel_rfl
theorem z7t:tyS Tryz.prog 28=some (false,1):=by kernel_rfl
theorem z4c:tyS Tryz.prog 30=some (true,8):=by kernel_rfl
theorem y4o:tyS Tryz.prog 47=some (true,5):=by kernel_rfl
theorem w6o:tyP Tryz.prog 25=some [(0,1),(1,1)]:=by kernel_rfl
theorem y4p:tyP Tryz.prog 30=some [(0,1),(1,1),(2,1),(3,1),(4,1),(5,1),(6,1),(7,1)]:=by kernel_rfl
theorem w25:tyP Tryz.prog 47=some [(0,1),(1,1),(2,1),(3,1),(4,1)]:=by kernel_rfl
theorem w45:tyP Tryz.prog 102=some [(0,1),(1,1),(2,1),(3,1)]:=by kernel_rfl
theorem tyZ4:tyZ Tryz.prog 4=some [.bool false]:=by kernel_rfl
theorem tyZ9:tyZ Tryz.prog 9=some [.string ⟨#[]⟩]:=by kernel_rfl
theorem w6n:tyZ Tryz.prog 25=some [.slice none 0 0,.int .i64 0]:=by kernel_rfl
theorem w42:tyZ Tryz.prog 28=some [.slice none 0 0]:=by kernel_rfl
theorem y06:tyZ Tryz.prog 30=some [.string ⟨#[]⟩,.string ⟨#[]⟩,.string ⟨#[]⟩,.string ⟨#[]⟩,.slice none 0 0,.slice none 0 0,.int .i64 0,.int .i64 0]:=by kernel_rfl
theorem y8k:tyZ Tryz.prog 47=some [.string ⟨#[]⟩,.string ⟨#[]⟩,.int .i64 0,.int .i64 0,.int .i64 0]:=by kernel_rfl
theorem w41:tyZ Tryz.prog 72=some [.string ⟨#[]⟩,.string ⟨#[]⟩,.string ⟨#[]⟩,.string ⟨#[]⟩]:=by kernel_rfl
theorem w43:tyZ Tryz.prog 102=some [.slice none 0 0,.bool false,.int .i64 0,.bool false]:=by kernel_rfl
theorem x1j:tyF Tryz.prog 25 0=some (0,22):=by kernel_rfl
theorem y9f:tyF Tryz.prog 25 1=some (1,3):=by kernel_rfl
theorem y5o:tyF Tryz.prog 30 0=some (0,9):=by kernel_rfl
theorem y5n:tyF Tryz.prog 30 1=some (1,9):=by kernel_rfl
theorem y5m:tyF Tryz.prog 30 2=some (2,9):=by kernel_rfl
theorem y25:tyF Tryz.prog 30 3=some (3,9):=by kernel_rfl
theorem y2n:tyF Tryz.prog 30 4=some (4,28):=by kernel_rfl
theorem y2g:tyF Tryz.prog 30 5=some (5,28):=by kernel_rfl
theorem y3p:tyF Tryz.prog 30 6=some (6,3):=by kernel_rfl
theorem y2m:tyF Tryz.prog 30 7=some (7,3):=by kernel_rfl
theorem y4c:tyF Tryz.prog 47 0=some (0,9):=by kernel_rfl
theorem y60:tyF Tryz.prog 47 1=some (1,9):=by kernel_rfl
theorem y4b:tyF Tryz.prog 47 2=some (2,3):=by kernel_rfl
theorem y5l:tyF Tryz.prog 47 3=some (3,3):=by kernel_rfl
theorem y5k:tyF Tryz.prog 47 4=some (4,3):=by kernel_rfl
theorem y7f:tyF Tryz.prog 102 0=some (0,28):=by kernel_rfl
theorem x5n:tyF Tryz.prog 102 1=some (1,4):=by kernel_rfl
theorem y2o:tyF Tryz.prog 102 2=some (2,3):=by kernel_rfl
theorem y4q:tyF Tryz.prog 102 3=some (3,4):=by kernel_rfl
theorem w5b:tyE Tryz.prog 22=some (3,1):=by kernel_rfl
theorem x1i:Elem Tryz.prog 22 3 1 8:=Elem.mk (z := .int .i64 0) (by kernel_rfl) (by kernel_rfl) rfl (by decide)
theorem y61:tyE Tryz.prog 26=some (47,5):=by kernel_rfl
theorem w47:Elem Tryz.prog 26 47 5 56:=Elem.mk (z := .agg #[.string ⟨#[]⟩,.string ⟨#[]⟩,.int .i64 0,.int .i64 0,.int .i64 0]) (by kernel_rfl) (by kernel_rfl) rfl (by decide)
theorem z88:tyE Tryz.prog 28=some (9,1):=by kernel_rfl
theorem z8w:Elem Tryz.prog 28 9 1 16:=Elem.mk (z := .string ⟨#[]⟩) (by kernel_rfl) (by kernel_rfl) rfl (by decide)
theorem w5a:tyE Tryz.prog 52=some (28,1):=by kernel_rfl
theorem w46:Elem Tryz.prog 52 28 1 24:=Elem.mk (z := .slice none 0 0) (by kernel_rfl) (by kernel_rfl) rfl (by decide)
theorem w49:tyE Tryz.prog 82=some (5,1):=by kernel_rfl
theorem x6x:Elem Tryz.prog 82 5 1 1:=Elem.mk (z := .int .u8 0) (by kernel_rfl) (by kernel_rfl) rfl (by decide)
theorem tyU2:Tryz.prog.underlying 2=some (.int .i64):=by kernel_rfl
theorem tyU3:Tryz.prog.underlying 3=some (.int .i64):=by kernel_rfl
theorem tyU5:Tryz.prog.underlying 5=some (.int .u8):=by kernel_rfl
theorem tyU9:Tryz.prog.underlying 9=some .string:=by kernel_rfl
theorem w0u:Tryz.prog.underlying 21=some (.int .i32):=by kernel_rfl
theorem w0t:Tryz.prog.underlying 22=some (.slice 3):=by kernel_rfl
theorem x2t:Tryz.prog.underlying 26=some (.slice 47):=by kernel_rfl
theorem z9v:Tryz.prog.underlying 28=some (.slice 9):=by kernel_rfl
theorem x0k:Tryz.prog.underlying 82=some (.slice 5):=by kernel_rfl
theorem x7z:Tryz.prog.underlying 83=some (.int .u64):=by kernel_rfl
theorem y8l:Tryz.prog.underlying 84=some (.int .u64):=by kernel_rfl
end Go.Proofs.YtkckjgkfljgjpaaGreatDoor
