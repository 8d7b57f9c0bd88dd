/- Facts on the types of the program: read off its tables. Printed by a program. -/
import Derived.Test.YtihjlkocfeoelaaGreatDoorRows
import Derived.Test.YtihjlkocfeoelaaGreatDoorMb
namespace Go.Proofs.YtihjlkocfeoelaaGreatDoor

theorem mixed:Tryz.prog.follows .mixedOrders=true:=by kernel_rfl
theorem tyS3:tyS Tryz.prog 3=some (false,1):=by kernel_rfl
theorem tyS4:tyS Tryz.prog 4=some (false,1):=by kernel_rfl
theorem tyS5:tyS Tryz.prog 5=some (false,1):=by kernel_rfl
theorem tyS9:tyS Tryz.prog 9=some (false,1):=by kernel_rfl
theorem x2k:tyS Tryz.prog 22=some (false,1):=by kernel_rfl
theorem z6w:tyS Tryz.prog 26=some (false,1):=by kernel_rfl
theorem z6c:tyS Tryz.prog 28=some (true,8):=by kernel_rfl
theorem x7t:tyP Tryz.prog 25=some [(0,1),(1,1)]:=by kernel_rfl
theorem y5s:tyP Tryz.prog 28=some [(0,1),(1,1),(2,1),(3,1),(4,1),(5,1),(6,1),(7,1)]:=by kernel_rfl
theorem x7s:tyP Tryz.prog 55=some [(0,1),(1,1),(2,1),(3,1)]:=by kernel_rfl
theorem tyZ5:tyZ Tryz.prog 5=some [.int .u8 0]:=by kernel_rfl
theorem tyZ9:tyZ Tryz.prog 9=some [.string ⟨#[]⟩]:=by kernel_rfl
theorem x7r:tyZ Tryz.prog 25=some [.slice none 0 0,.int .i64 0]:=by kernel_rfl
theorem y0l:tyZ Tryz.prog 28=some [.string ⟨#[]⟩,.string ⟨#[]⟩,.string ⟨#[]⟩,.string ⟨#[]⟩,.slice none 0 0,.slice none 0 0,.int .i64 0,.int .i64 0]:=by kernel_rfl
theorem x7q:tyZ Tryz.prog 55=some [.slice none 0 0,.bool false,.int .i64 0,.bool false]:=by kernel_rfl
theorem x6j:tyZ Tryz.prog 74=some [.string ⟨#[]⟩,.string ⟨#[]⟩,.string ⟨#[]⟩,.string ⟨#[]⟩]:=by kernel_rfl
theorem y4y:tyF Tryz.prog 25 0=some (0,22):=by kernel_rfl
theorem y3e:tyF Tryz.prog 25 1=some (1,3):=by kernel_rfl
theorem y0o:tyF Tryz.prog 28 0=some (0,9):=by kernel_rfl
theorem y0n:tyF Tryz.prog 28 1=some (1,9):=by kernel_rfl
theorem y0m:tyF Tryz.prog 28 2=some (2,9):=by kernel_rfl
theorem z8n:tyF Tryz.prog 28 3=some (3,9):=by kernel_rfl
theorem z8c:tyF Tryz.prog 28 4=some (4,26):=by kernel_rfl
theorem z78:tyF Tryz.prog 28 5=some (5,26):=by kernel_rfl
theorem z85:tyF Tryz.prog 28 6=some (6,3):=by kernel_rfl
theorem z84:tyF Tryz.prog 28 7=some (7,3):=by kernel_rfl
theorem y3d:tyF Tryz.prog 55 0=some (0,26):=by kernel_rfl
theorem y9v:tyF Tryz.prog 55 1=some (1,4):=by kernel_rfl
theorem z9m:tyF Tryz.prog 55 2=some (2,3):=by kernel_rfl
theorem y03:tyF Tryz.prog 55 3=some (3,4):=by kernel_rfl
theorem x6p:tyE Tryz.prog 22=some (3,1):=by kernel_rfl
theorem x2l:Elem Tryz.prog 22 3 1 8:=Elem.mk (z := .int .i64 0) (by kernel_rfl) (by kernel_rfl) rfl (by decide)
theorem z7t:tyE Tryz.prog 26=some (9,1):=by kernel_rfl
theorem z6o:Elem Tryz.prog 26 9 1 16:=Elem.mk (z := .string ⟨#[]⟩) (by kernel_rfl) (by kernel_rfl) rfl (by decide)
theorem x6o:tyE Tryz.prog 32=some (5,1):=by kernel_rfl
theorem x4t:Elem Tryz.prog 32 5 1 1:=Elem.mk (z := .int .u8 0) (by kernel_rfl) (by kernel_rfl) rfl (by decide)
theorem x6n:tyE Tryz.prog 44=some (26,1):=by kernel_rfl
theorem x6l:Elem Tryz.prog 44 26 1 24:=Elem.mk (z := .slice none 0 0) (by kernel_rfl) (by kernel_rfl) rfl (by decide)
theorem tyU2:Tryz.prog.underlying 2=some (.int .i64):=by kernel_rfl
theorem tyU3:Tryz.prog.underlying 3=some (.int .i64):=by kernel_rfl
theorem tyU5:Tryz.prog.underlying 5=some (.int .u8):=by kernel_rfl
theorem tyU9:Tryz.prog.underlying 9=some .string:=by kernel_rfl
theorem x2j:Tryz.prog.underlying 21=some (.int .i32):=by kernel_rfl
theorem x2i:Tryz.prog.underlying 22=some (.slice 3):=by kernel_rfl
theorem z6n:Tryz.prog.underlying 26=some (.slice 9):=by kernel_rfl
theorem y81:Tryz.prog.underlying 32=some (.slice 5):=by kernel_rfl
theorem x6k:Tryz.prog.underlying 97=some (.int .u64):=by kernel_rfl
theorem y37:Tryz.prog.underlying 119=some (.int .u64):=by kernel_rfl
end Go.Proofs.YtihjlkocfeoelaaGreatDoor
