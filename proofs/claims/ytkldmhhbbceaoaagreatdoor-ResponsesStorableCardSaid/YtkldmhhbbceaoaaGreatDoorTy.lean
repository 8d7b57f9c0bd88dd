/- Facts on the types of the program: read off its tables. Printed by a program. -/
import Derived.Test.YtkldmhhbbceaoaaGreatDoorRows
import Derived.Test.YtkldmhhbbceaoaaGreatDoorMb
namespace Go.Proofs.YtkldmhhbbceaoaaGreatDoor

theorem mixed:Tryz.prog.follows .mixedOrders=true:=by kernel_rfl
theorem tyS3:tyS Tryz.prog 3=some (false,1):=by kernel_rfl
theorem tyS4:tyS Tryz.prog 4=some (false,1):=by kernel_rfl
theorem tyS5:tyS Tryz.prog 5=some (false,1):=by kernel_rfl
theorem tyS9:tyS Tryz.prog 9=some (false,1):=by kernel_rfl
theorem z4q:tyS Tryz.prog 22=some (false,1):=by kernel_rfl
theorem qv:tyS Tryz.prog 26=some (false,1):=by kernel_rfl
theorem vg:tyS Tryz.prog 28=some (true,8):=by kernel_rfl
theorem qp:tyS Tryz.prog 31=some (true,3):=by kernel_rfl
theorem y5h:tyS Tryz.prog 35=some (false,1):=by kernel_rfl
theorem uj:tyS Tryz.prog 53=some (true,2):=by kernel_rfl
theorem wh:tyS Tryz.prog 63=some (true,12):=by kernel_rfl
theorem Wg:tyS Tryz.prog 102=some (false,1):=by kernel_rfl
theorem y0t:tyS Tryz.prog 116=some (false,1):=by kernel_rfl
theorem y5i:tyP Tryz.prog 25=some [(0,1),(1,1)]:=by kernel_rfl
theorem y0u:tyP Tryz.prog 28=some [(0,1),(1,1),(2,1),(3,1),(4,1),(5,1),(6,1),(7,1)]:=by kernel_rfl
theorem z7t:tyP Tryz.prog 31=some [(0,1),(1,1),(2,1)]:=by kernel_rfl
theorem kv:tyP Tryz.prog 53=some [(0,1),(1,1)]:=by kernel_rfl
theorem z16:tyP Tryz.prog 63=some [(0,1),(1,1),(2,1),(3,1),(4,1),(5,1),(6,1),(7,1),(8,1),(9,1),(10,1),(11,1)]:=by kernel_rfl
theorem y5f:tyZ Tryz.prog 25=some [.slice none 0 0,.int .i64 0]:=by kernel_rfl
theorem ui:tyZ Tryz.prog 28=some [.int .i64 0,.string ⟨#[]⟩,.string ⟨#[]⟩,.string ⟨#[]⟩,.string ⟨#[]⟩,.string ⟨#[]⟩,.slice none 0 0,.string ⟨#[]⟩]:=by kernel_rfl
theorem uh:tyZ Tryz.prog 31=some [.int .i64 0,.slice none 0 0,.string ⟨#[]⟩]:=by kernel_rfl
theorem jm:tyZ Tryz.prog 53=some [.string ⟨#[]⟩,.string ⟨#[]⟩]:=by kernel_rfl
theorem ja:tyZ Tryz.prog 63=some [.bool false,.bool false,.bool false,.bool false,.bool false,.bool false,.int .i64 0,.int .i64 0,.int .i64 0,.int .i64 0,.int .i64 0,.int .i64 0]:=by kernel_rfl
theorem z41:tyF Tryz.prog 25 0=some (0,22):=by kernel_rfl
theorem z18:tyF Tryz.prog 25 1=some (1,3):=by kernel_rfl
theorem z7x:tyF Tryz.prog 28 0=some (0,3):=by kernel_rfl
theorem Wj:tyF Tryz.prog 28 1=some (1,9):=by kernel_rfl
theorem z7w:tyF Tryz.prog 28 2=some (2,9):=by kernel_rfl
theorem z4z:tyF Tryz.prog 28 3=some (3,9):=by kernel_rfl
theorem z4y:tyF Tryz.prog 28 4=some (4,9):=by kernel_rfl
theorem z7v:tyF Tryz.prog 28 5=some (5,9):=by kernel_rfl
theorem jc:tyF Tryz.prog 28 6=some (6,26):=by kernel_rfl
theorem z4x:tyF Tryz.prog 28 7=some (7,9):=by kernel_rfl
theorem Wi:tyF Tryz.prog 31 0=some (0,3):=by kernel_rfl
theorem jb:tyF Tryz.prog 31 1=some (1,26):=by kernel_rfl
theorem z7u:tyF Tryz.prog 31 2=some (2,9):=by kernel_rfl
theorem z4w:tyF Tryz.prog 53 0=some (0,9):=by kernel_rfl
theorem z4v:tyF Tryz.prog 53 1=some (1,9):=by kernel_rfl
theorem Wh:tyF Tryz.prog 63 0=some (0,4):=by kernel_rfl
theorem z4u:tyF Tryz.prog 63 1=some (1,4):=by kernel_rfl
theorem z4t:tyF Tryz.prog 63 2=some (2,4):=by kernel_rfl
theorem z4s:tyF Tryz.prog 63 3=some (3,4):=by kernel_rfl
theorem z4r:tyF Tryz.prog 63 4=some (4,4):=by kernel_rfl
theorem y0z:tyF Tryz.prog 63 5=some (5,4):=by kernel_rfl
theorem z17:tyF Tryz.prog 63 6=some (6,3):=by kernel_rfl
theorem xo:tyF Tryz.prog 63 7=some (7,3):=by kernel_rfl
theorem y0y:tyF Tryz.prog 63 8=some (8,3):=by kernel_rfl
theorem y0x:tyF Tryz.prog 63 9=some (9,3):=by kernel_rfl
theorem y01:tyF Tryz.prog 63 10=some (10,3):=by kernel_rfl
theorem y00:tyF Tryz.prog 63 11=some (11,3):=by kernel_rfl
theorem z7y:tyE Tryz.prog 22=some (3,1):=by kernel_rfl
theorem xn:Elem Tryz.prog 22 3 1 8:=Elem.mk (z := .int .i64 0) (by kernel_rfl) (by kernel_rfl) rfl (by decide)
theorem z42:tyE Tryz.prog 26=some (53,2):=by kernel_rfl
theorem vh:Elem Tryz.prog 26 53 2 32:=Elem.mk (z := .agg #[.string ⟨#[]⟩,.string ⟨#[]⟩]) (by kernel_rfl) (by kernel_rfl) rfl (by decide)
theorem vi:tyE Tryz.prog 40=some (9,1):=by kernel_rfl
theorem yn:Elem Tryz.prog 40 9 1 16:=Elem.mk (z := .string ⟨#[]⟩) (by kernel_rfl) (by kernel_rfl) rfl (by decide)
theorem y5l:tyE Tryz.prog 69=some (35,1):=by kernel_rfl
theorem y5j:Elem Tryz.prog 69 35 1 8:=Elem.mk (z := .int .i64 0) (by kernel_rfl) (by kernel_rfl) rfl (by decide)
theorem y03:tyE Tryz.prog 87=some (5,1):=by kernel_rfl
theorem Wl:tyE Tryz.prog 98=some (102,1):=by kernel_rfl
theorem y0v:Elem Tryz.prog 98 102 1 8:=Elem.mk (z := .pointer none) (by kernel_rfl) (by kernel_rfl) rfl (by decide)
theorem y04:tyE Tryz.prog 117=some (116,1):=by kernel_rfl
theorem y0w:Elem Tryz.prog 117 116 1 8:=Elem.mk (z := .pointer none) (by kernel_rfl) (by kernel_rfl) rfl (by decide)
theorem tyU2:Tryz.prog.underlying 2=some (.int .i64):=by kernel_rfl
theorem tyU3:Tryz.prog.underlying 3=some (.int .i64):=by kernel_rfl
theorem tyU4:Tryz.prog.underlying 4=some .bool:=by kernel_rfl
theorem tyU5:Tryz.prog.underlying 5=some (.int .u8):=by kernel_rfl
theorem tyU9:Tryz.prog.underlying 9=some .string:=by kernel_rfl
theorem z4p:Tryz.prog.underlying 21=some (.int .i32):=by kernel_rfl
theorem z15:Tryz.prog.underlying 22=some (.slice 3):=by kernel_rfl
theorem Wd:Tryz.prog.underlying 26=some (.slice 53):=by kernel_rfl
theorem wa:Tryz.prog.underlying 40=some (.slice 9):=by kernel_rfl
theorem y5g:Tryz.prog.underlying 69=some (.slice 35):=by kernel_rfl
theorem y0s:Tryz.prog.underlying 82=some (.int .u64):=by kernel_rfl
theorem z4o:Tryz.prog.underlying 87=some (.slice 5):=by kernel_rfl
theorem y0r:Tryz.prog.underlying 98=some (.slice 102):=by kernel_rfl
theorem We:Tryz.prog.underlying 130=some (.int .u64):=by kernel_rfl
end Go.Proofs.YtkldmhhbbceaoaaGreatDoor
