/- Facts on the types of the program: read off its tables. Printed by a program. -/
import Derived.Test.YtkldmhhbbceaoabGreatDoorRows
import Derived.Test.YtkldmhhbbceaoabGreatDoorMb
namespace Go.Proofs.YtkldmhhbbceaoabGreatDoor

theorem mixed:Tryz.prog.follows .mixedOrders=true:=by kernel_rfl
theorem tyS3:tyS Tryz.prog 3=some (false,1):=by kernel_rfl
theorem tyS4:tyS Tryz.prog 4=some (false,1):=by kernel_rfl
theorem tyS5:tyS Tryz.prog 5=some (false,1):=by kernel_rfl
theorem tyS9:tyS Tryz.prog 9=some (false,1):=by kernel_rfl
theorem z5w:tyS Tryz.prog 22=some (false,1):=by kernel_rfl
theorem qg:tyS Tryz.prog 26=some (false,1):=by kernel_rfl
theorem qp:tyS Tryz.prog 28=some (true,8):=by kernel_rfl
theorem wi:tyS Tryz.prog 30=some (true,3):=by kernel_rfl
theorem jn:tyS Tryz.prog 31=some (false,1):=by kernel_rfl
theorem yo:tyS Tryz.prog 33=some (true,14):=by kernel_rfl
theorem y12:tyS Tryz.prog 40=some (false,1):=by kernel_rfl
theorem wq:tyS Tryz.prog 57=some (true,2):=by kernel_rfl
theorem xx:tyS Tryz.prog 122=some (true,12):=by kernel_rfl
theorem z5x:tyS Tryz.prog 162=some (false,1):=by kernel_rfl
theorem y7f:tyS Tryz.prog 204=some (false,1):=by kernel_rfl
theorem y7i:tyP Tryz.prog 25=some [(0,1),(1,1)]:=by kernel_rfl
theorem z23:tyP Tryz.prog 28=some [(0,1),(1,1),(2,1),(3,1),(4,1),(5,1),(6,1),(7,1)]:=by kernel_rfl
theorem y13:tyP Tryz.prog 30=some [(0,1),(1,1),(2,1)]:=by kernel_rfl
theorem kg:tyP Tryz.prog 33=some [(0,8),(8,3),(11,1),(12,1),(13,1)]:=by kernel_rfl
theorem ko:tyP Tryz.prog 57=some [(0,1),(1,1)]:=by kernel_rfl
theorem y14:tyP Tryz.prog 122=some [(0,1),(1,1),(2,1),(3,1),(4,1),(5,1),(6,1),(7,1),(8,1),(9,1),(10,1),(11,1)]:=by kernel_rfl
theorem y7d:tyZ Tryz.prog 25=some [.slice none 0 0,.int .i64 0]:=by kernel_rfl
theorem js:tyZ Tryz.prog 28=some [.int .i64 0,.string ⟨#[]⟩,.string ⟨#[]⟩,.string ⟨#[]⟩,.string ⟨#[]⟩,.string ⟨#[]⟩,.slice none 0 0,.string ⟨#[]⟩]:=by kernel_rfl
theorem z0l:tyZ Tryz.prog 30=some [.int .i64 0,.slice none 0 0,.string ⟨#[]⟩]:=by kernel_rfl
theorem ww:tyZ Tryz.prog 33=some [.int .i64 0,.string ⟨#[]⟩,.string ⟨#[]⟩,.string ⟨#[]⟩,.string ⟨#[]⟩,.string ⟨#[]⟩,.slice none 0 0,.string ⟨#[]⟩,.int .i64 0,.slice none 0 0,.string ⟨#[]⟩,.int .i64 0,.slice none 0 0,.int .i64 0]:=by kernel_rfl
theorem vk:tyZ Tryz.prog 57=some [.string ⟨#[]⟩,.string ⟨#[]⟩]:=by kernel_rfl
theorem z22:tyZ Tryz.prog 122=some [.bool false,.bool false,.bool false,.bool false,.bool false,.bool false,.int .i64 0,.int .i64 0,.int .i64 0,.int .i64 0,.int .i64 0,.int .i64 0]:=by kernel_rfl
theorem z56:tyF Tryz.prog 25 0=some (0,22):=by kernel_rfl
theorem z27:tyF Tryz.prog 25 1=some (1,3):=by kernel_rfl
theorem z55:tyF Tryz.prog 28 0=some (0,3):=by kernel_rfl
theorem z54:tyF Tryz.prog 28 1=some (1,9):=by kernel_rfl
theorem z26:tyF Tryz.prog 28 2=some (2,9):=by kernel_rfl
theorem z25:tyF Tryz.prog 28 3=some (3,9):=by kernel_rfl
theorem z24:tyF Tryz.prog 28 4=some (4,9):=by kernel_rfl
theorem z52:tyF Tryz.prog 28 5=some (5,9):=by kernel_rfl
theorem vn:tyF Tryz.prog 28 6=some (6,26):=by kernel_rfl
theorem z50:tyF Tryz.prog 28 7=some (7,9):=by kernel_rfl
theorem xz:tyF Tryz.prog 30 0=some (0,3):=by kernel_rfl
theorem wx:tyF Tryz.prog 30 1=some (1,26):=by kernel_rfl
theorem z5z:tyF Tryz.prog 30 2=some (2,9):=by kernel_rfl
theorem Yd:tyF Tryz.prog 33 0=some (0,28):=by kernel_rfl
theorem vy:tyF Tryz.prog 33 1=some (8,30):=by kernel_rfl
theorem ub:tyF Tryz.prog 33 2=some (11,3):=by kernel_rfl
theorem kh:tyF Tryz.prog 33 3=some (12,31):=by kernel_rfl
theorem xy:tyF Tryz.prog 33 4=some (13,3):=by kernel_rfl
theorem kq:tyF Tryz.prog 57 0=some (0,9):=by kernel_rfl
theorem z0n:tyF Tryz.prog 57 1=some (1,9):=by kernel_rfl
theorem y7u:tyF Tryz.prog 122 0=some (0,4):=by kernel_rfl
theorem y17:tyF Tryz.prog 122 1=some (1,4):=by kernel_rfl
theorem y7r:tyF Tryz.prog 122 2=some (2,4):=by kernel_rfl
theorem y7q:tyF Tryz.prog 122 3=some (3,4):=by kernel_rfl
theorem y7p:tyF Tryz.prog 122 4=some (4,4):=by kernel_rfl
theorem y7o:tyF Tryz.prog 122 5=some (5,4):=by kernel_rfl
theorem z8t:tyF Tryz.prog 122 6=some (6,3):=by kernel_rfl
theorem z8s:tyF Tryz.prog 122 7=some (7,3):=by kernel_rfl
theorem y7n:tyF Tryz.prog 122 8=some (8,3):=by kernel_rfl
theorem y7m:tyF Tryz.prog 122 9=some (9,3):=by kernel_rfl
theorem y7t:tyF Tryz.prog 122 10=some (10,3):=by kernel_rfl
theorem y7s:tyF Tryz.prog 122 11=some (11,3):=by kernel_rfl
theorem y2b:tyE Tryz.prog 22=some (3,1):=by kernel_rfl
theorem z5y:Elem Tryz.prog 22 3 1 8:=Elem.mk (z := .int .i64 0) (by kernel_rfl) (by kernel_rfl) rfl (by decide)
theorem je:tyE Tryz.prog 26=some (57,2):=by kernel_rfl
theorem wm:Elem Tryz.prog 26 57 2 32:=Elem.mk (z := .agg #[.string ⟨#[]⟩,.string ⟨#[]⟩]) (by kernel_rfl) (by kernel_rfl) rfl (by decide)
theorem wy:tyE Tryz.prog 31=some (9,1):=by kernel_rfl
theorem yr:Elem Tryz.prog 31 9 1 16:=Elem.mk (z := .string ⟨#[]⟩) (by kernel_rfl) (by kernel_rfl) rfl (by decide)
theorem y2a:tyE Tryz.prog 53=some (31,1):=by kernel_rfl
theorem y16:Elem Tryz.prog 53 31 1 24:=Elem.mk (z := .slice none 0 0) (by kernel_rfl) (by kernel_rfl) rfl (by decide)
theorem y19:tyE Tryz.prog 67=some (40,1):=by kernel_rfl
theorem y15:Elem Tryz.prog 67 40 1 8:=Elem.mk (z := .int .i64 0) (by kernel_rfl) (by kernel_rfl) rfl (by decide)
theorem y18:tyE Tryz.prog 90=some (5,1):=by kernel_rfl
theorem z57:tyE Tryz.prog 158=some (162,1):=by kernel_rfl
theorem y7k:Elem Tryz.prog 158 162 1 8:=Elem.mk (z := .pointer none) (by kernel_rfl) (by kernel_rfl) rfl (by decide)
theorem y7v:tyE Tryz.prog 201=some (204,1):=by kernel_rfl
theorem y7j:Elem Tryz.prog 201 204 1 8:=Elem.mk (z := .pointer none) (by kernel_rfl) (by kernel_rfl) rfl (by decide)
theorem tyU2:Tryz.prog.underlying 2=some (.int .i64):=by kernel_rfl
theorem tyU3:Tryz.prog.underlying 3=some (.int .i64):=by kernel_rfl
theorem tyU5:Tryz.prog.underlying 5=some (.int .u8):=by kernel_rfl
theorem tyU9:Tryz.prog.underlying 9=some .string:=by kernel_rfl
theorem z5v:Tryz.prog.underlying 21=some (.int .i32):=by kernel_rfl
theorem z5u:Tryz.prog.underlying 22=some (.slice 3):=by kernel_rfl
theorem vm:Tryz.prog.underlying 26=some (.slice 57):=by kernel_rfl
theorem we:Tryz.prog.underlying 31=some (.slice 9):=by kernel_rfl
theorem y11:Tryz.prog.underlying 67=some (.slice 40):=by kernel_rfl
theorem y10:Tryz.prog.underlying 86=some (.int .u64):=by kernel_rfl
theorem z5t:Tryz.prog.underlying 90=some (.slice 5):=by kernel_rfl
theorem z0m:Tryz.prog.underlying 129=some (.int .u64):=by kernel_rfl
theorem y7e:Tryz.prog.underlying 158=some (.slice 162):=by kernel_rfl
theorem y7h:tyQ Tryz.prog 57=some [.string,.string]:=by kernel_rfl
end Go.Proofs.YtkldmhhbbceaoabGreatDoor
