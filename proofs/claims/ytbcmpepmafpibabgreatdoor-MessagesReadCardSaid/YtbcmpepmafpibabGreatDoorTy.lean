/- Facts on the types of the program: read off its tables. Printed by a program. -/
import Derived.Test.YtbcmpepmafpibabGreatDoorRows
import Derived.Test.YtbcmpepmafpibabGreatDoorMb
namespace Go.Proofs.YtbcmpepmafpibabGreatDoor

theorem mixed:Tryz.prog.follows .mixedOrders=true:=by kernel_rfl
theorem tyS3:tyS Tryz.prog 3=some (false,1):=by kernel_rfl
theorem tyS4:tyS Tryz.prog 4=some (false,1):=by kernel_rfl
theorem tyS5:tyS Tryz.prog 5=some (false,1):=by kernel_rfl
theorem tyS9:tyS Tryz.prog 9=some (false,1):=by kernel_rfl
theorem z4u:tyS Tryz.prog 22=some (false,1):=by kernel_rfl
theorem z1s:tyS Tryz.prog 28=some (false,1):=by kernel_rfl
theorem qw:tyS Tryz.prog 29=some (false,1):=by kernel_rfl
theorem yr:tyS Tryz.prog 31=some (true,8):=by kernel_rfl
theorem yx:tyS Tryz.prog 36=some (true,3):=by kernel_rfl
theorem js:tyS Tryz.prog 57=some (true,3):=by kernel_rfl
theorem vv:tyS Tryz.prog 69=some (true,3):=by kernel_rfl
theorem wv:tyS Tryz.prog 91=some (true,2):=by kernel_rfl
theorem y4m:tyP Tryz.prog 25=some [(0,1),(1,1)]:=by kernel_rfl
theorem uo:tyP Tryz.prog 31=some [(0,1),(1,1),(2,1),(3,1),(4,1),(5,1),(6,1),(7,1)]:=by kernel_rfl
theorem xg:tyP Tryz.prog 36=some [(0,1),(1,1),(2,1)]:=by kernel_rfl
theorem z7e:tyP Tryz.prog 91=some [(0,1),(1,1)]:=by kernel_rfl
theorem tyZ5:tyZ Tryz.prog 5=some [.int .u8 0]:=by kernel_rfl
theorem y4j:tyZ Tryz.prog 25=some [.slice none 0 0,.int .i64 0]:=by kernel_rfl
theorem vf:tyZ Tryz.prog 31=some [.int .i64 0,.string ⟨#[]⟩,.string ⟨#[]⟩,.string ⟨#[]⟩,.string ⟨#[]⟩,.string ⟨#[]⟩,.slice none 0 0,.string ⟨#[]⟩]:=by kernel_rfl
theorem vo:tyZ Tryz.prog 36=some [.int .i64 0,.slice none 0 0,.string ⟨#[]⟩]:=by kernel_rfl
theorem z4r:tyZ Tryz.prog 57=some [.string ⟨#[]⟩,.slice none 0 0,.int .i64 0]:=by kernel_rfl
theorem z4q:tyZ Tryz.prog 69=some [.string ⟨#[]⟩,.slice none 0 0,.string ⟨#[]⟩]:=by kernel_rfl
theorem ky:tyZ Tryz.prog 91=some [.string ⟨#[]⟩,.string ⟨#[]⟩]:=by kernel_rfl
theorem y0c:tyZ Tryz.prog 101=some [.pointer none,.slice none 0 0]:=by kernel_rfl
theorem z4y:tyF Tryz.prog 25 0=some (0,22):=by kernel_rfl
theorem z10:tyF Tryz.prog 25 1=some (1,3):=by kernel_rfl
theorem z4x:tyF Tryz.prog 31 0=some (0,3):=by kernel_rfl
theorem z1z:tyF Tryz.prog 31 1=some (1,9):=by kernel_rfl
theorem z1y:tyF Tryz.prog 31 2=some (2,9):=by kernel_rfl
theorem Wi:tyF Tryz.prog 31 3=some (3,9):=by kernel_rfl
theorem Zv:tyF Tryz.prog 31 4=some (4,9):=by kernel_rfl
theorem z4w:tyF Tryz.prog 31 5=some (5,9):=by kernel_rfl
theorem z1x:tyF Tryz.prog 31 6=some (6,29):=by kernel_rfl
theorem Wh:tyF Tryz.prog 31 7=some (7,9):=by kernel_rfl
theorem Wg:tyF Tryz.prog 36 0=some (0,3):=by kernel_rfl
theorem z1w:tyF Tryz.prog 36 1=some (1,29):=by kernel_rfl
theorem z1v:tyF Tryz.prog 36 2=some (2,9):=by kernel_rfl
theorem z7h:tyF Tryz.prog 57 0=some (0,9):=by kernel_rfl
theorem xi:tyF Tryz.prog 57 1=some (1,29):=by kernel_rfl
theorem z1u:tyF Tryz.prog 57 2=some (2,3):=by kernel_rfl
theorem z7g:tyF Tryz.prog 69 0=some (0,9):=by kernel_rfl
theorem kj:tyF Tryz.prog 69 1=some (1,29):=by kernel_rfl
theorem Zu:tyF Tryz.prog 69 2=some (2,9):=by kernel_rfl
theorem Zt:tyF Tryz.prog 91 0=some (0,9):=by kernel_rfl
theorem z1t:tyF Tryz.prog 91 1=some (1,9):=by kernel_rfl
theorem z11:tyF Tryz.prog 101 1=some (1,28):=by kernel_rfl
theorem y0e:tyE Tryz.prog 22=some (3,1):=by kernel_rfl
theorem z7f:Elem Tryz.prog 22 3 1 8:=Elem.mk (z := .int .i64 0) (by kernel_rfl) (by kernel_rfl) rfl (by decide)
theorem y0d:tyE Tryz.prog 28=some (5,1):=by kernel_rfl
theorem z4v:Elem Tryz.prog 28 5 1 1:=Elem.mk (z := .int .u8 0) (by kernel_rfl) (by kernel_rfl) rfl (by decide)
theorem ka:tyE Tryz.prog 29=some (91,2):=by kernel_rfl
theorem xh:Elem Tryz.prog 29 91 2 32:=Elem.mk (z := .agg #[.string ⟨#[]⟩,.string ⟨#[]⟩]) (by kernel_rfl) (by kernel_rfl) rfl (by decide)
theorem ww:tyE Tryz.prog 60=some (9,1):=by kernel_rfl
theorem wt:Elem Tryz.prog 60 9 1 16:=Elem.mk (z := .string ⟨#[]⟩) (by kernel_rfl) (by kernel_rfl) rfl (by decide)
theorem tyU2:Tryz.prog.underlying 2=some (.int .i64):=by kernel_rfl
theorem tyU3:Tryz.prog.underlying 3=some (.int .i64):=by kernel_rfl
theorem tyU5:Tryz.prog.underlying 5=some (.int .u8):=by kernel_rfl
theorem tyU9:Tryz.prog.underlying 9=some .string:=by kernel_rfl
theorem z4t:Tryz.prog.underlying 21=some (.int .i32):=by kernel_rfl
theorem z4s:Tryz.prog.underlying 22=some (.slice 3):=by kernel_rfl
theorem xf:Tryz.prog.underlying 28=some (.slice 5):=by kernel_rfl
theorem vg:Tryz.prog.underlying 29=some (.slice 91):=by kernel_rfl
theorem wb:Tryz.prog.underlying 60=some (.slice 9):=by kernel_rfl
theorem z1r:Tryz.prog.underlying 128=some (.int .u64):=by kernel_rfl
theorem kz:Tryz.prog.underlying 159=some (.int .u64):=by kernel_rfl
theorem y4l:tyQ Tryz.prog 91=some [.string,.string]:=by kernel_rfl
end Go.Proofs.YtbcmpepmafpibabGreatDoor
