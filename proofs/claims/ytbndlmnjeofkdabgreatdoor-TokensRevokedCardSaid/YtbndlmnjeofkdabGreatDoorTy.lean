/- Facts on the types of the program: read off its tables. Printed by a program. -/
import Derived.Test.YtbndlmnjeofkdabGreatDoorRows
import Derived.Test.YtbndlmnjeofkdabGreatDoorMb
namespace Go.Proofs.YtbndlmnjeofkdabGreatDoor

theorem mixed:Tryz.prog.follows .mixedOrders=true:=by kernel_rfl
theorem tyS3:tyS Tryz.prog 3=some (false,1):=by kernel_rfl
theorem tyS9:tyS Tryz.prog 9=some (false,1):=by kernel_rfl
theorem Wt:tyS Tryz.prog 22=some (false,1):=by kernel_rfl
theorem qp:tyS Tryz.prog 28=some (false,1):=by kernel_rfl
theorem wm:tyS Tryz.prog 30=some (true,8):=by kernel_rfl
theorem z8o:tyS Tryz.prog 33=some (false,1):=by kernel_rfl
theorem qk:tyS Tryz.prog 44=some (true,3):=by kernel_rfl
theorem z8s:tyP Tryz.prog 25=some [(0,1),(1,1)]:=by kernel_rfl
theorem z8r:tyP Tryz.prog 30=some [(0,1),(1,1),(2,1),(3,1),(4,1),(5,1),(6,1),(7,1)]:=by kernel_rfl
theorem Wu:tyP Tryz.prog 44=some [(0,1),(1,1),(2,1)]:=by kernel_rfl
theorem tyZ9:tyZ Tryz.prog 9=some [.string ⟨#[]⟩]:=by kernel_rfl
theorem z8k:tyZ Tryz.prog 25=some [.slice none 0 0,.int .i64 0]:=by kernel_rfl
theorem xk:tyZ Tryz.prog 30=some [.string ⟨#[]⟩,.string ⟨#[]⟩,.string ⟨#[]⟩,.string ⟨#[]⟩,.slice none 0 0,.slice none 0 0,.int .i64 0,.int .i64 0]:=by kernel_rfl
theorem ju:tyZ Tryz.prog 44=some [.string ⟨#[]⟩,.int .i64 0,.int .i64 0]:=by kernel_rfl
theorem Wv:tyF Tryz.prog 25 0=some (0,22):=by kernel_rfl
theorem Zv:tyF Tryz.prog 25 1=some (1,3):=by kernel_rfl
theorem ky:tyF Tryz.prog 30 0=some (0,9):=by kernel_rfl
theorem z1r:tyF Tryz.prog 30 1=some (1,9):=by kernel_rfl
theorem z1q:tyF Tryz.prog 30 2=some (2,9):=by kernel_rfl
theorem Zu:tyF Tryz.prog 30 3=some (3,9):=by kernel_rfl
theorem xo:tyF Tryz.prog 30 4=some (4,28):=by kernel_rfl
theorem kx:tyF Tryz.prog 30 5=some (5,28):=by kernel_rfl
theorem xn:tyF Tryz.prog 30 6=some (6,3):=by kernel_rfl
theorem va:tyF Tryz.prog 30 7=some (7,3):=by kernel_rfl
theorem vy:tyF Tryz.prog 44 0=some (0,9):=by kernel_rfl
theorem xm:tyF Tryz.prog 44 1=some (1,3):=by kernel_rfl
theorem vx:tyF Tryz.prog 44 2=some (2,3):=by kernel_rfl
theorem z4i:tyE Tryz.prog 22=some (3,1):=by kernel_rfl
theorem xl:Elem Tryz.prog 22 3 1 8:=Elem.mk (z := .int .i64 0) (by kernel_rfl) (by kernel_rfl) rfl (by decide)
theorem yw:tyE Tryz.prog 26=some (44,3):=by kernel_rfl
theorem wn:Elem Tryz.prog 26 44 3 32:=Elem.mk (z := .agg #[.string ⟨#[]⟩,.int .i64 0,.int .i64 0]) (by kernel_rfl) (by kernel_rfl) rfl (by decide)
theorem qt:tyE Tryz.prog 28=some (9,1):=by kernel_rfl
theorem yo:Elem Tryz.prog 28 9 1 16:=Elem.mk (z := .string ⟨#[]⟩) (by kernel_rfl) (by kernel_rfl) rfl (by decide)
theorem z4h:tyE Tryz.prog 52=some (28,1):=by kernel_rfl
theorem z4g:Elem Tryz.prog 52 28 1 24:=Elem.mk (z := .slice none 0 0) (by kernel_rfl) (by kernel_rfl) rfl (by decide)
theorem z8u:tyE Tryz.prog 64=some (33,1):=by kernel_rfl
theorem z4f:Elem Tryz.prog 64 33 1 8:=Elem.mk (z := .int .i64 0) (by kernel_rfl) (by kernel_rfl) rfl (by decide)
theorem z4e:Elem Tryz.prog 81 5 1 1:=Elem.mk (z := .int .u8 0) (by kernel_rfl) (by kernel_rfl) rfl (by decide)
theorem tyU3:Tryz.prog.underlying 3=some (.int .i64):=by kernel_rfl
theorem tyU5:Tryz.prog.underlying 5=some (.int .u8):=by kernel_rfl
theorem tyU9:Tryz.prog.underlying 9=some .string:=by kernel_rfl
theorem Ws:Tryz.prog.underlying 22=some (.slice 3):=by kernel_rfl
theorem yx:Tryz.prog.underlying 26=some (.slice 44):=by kernel_rfl
theorem qc:Tryz.prog.underlying 28=some (.slice 9):=by kernel_rfl
theorem z8m:Tryz.prog.underlying 64=some (.slice 33):=by kernel_rfl
theorem Wr:Tryz.prog.underlying 74=some (.int .u64):=by kernel_rfl
theorem z8l:Tryz.prog.underlying 81=some (.slice 5):=by kernel_rfl
theorem z4d:Tryz.prog.underlying 98=some (.int .u32):=by kernel_rfl
theorem z8n:Tryz.prog.underlying 100=some (.int .u64):=by kernel_rfl
theorem z8q:tyQ Tryz.prog 44=some [.string,.int .i64,.int .i64]:=by kernel_rfl
end Go.Proofs.YtbndlmnjeofkdabGreatDoor
