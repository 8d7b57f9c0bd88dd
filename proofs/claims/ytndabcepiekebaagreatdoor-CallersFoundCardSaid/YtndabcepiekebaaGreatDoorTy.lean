/- Facts on the types of the program: read off its tables. Printed by a program. -/
import Derived.Test.YtndabcepiekebaaGreatDoorRows
import Derived.Test.YtndabcepiekebaaGreatDoorMb
namespace Go.Proofs.YtndabcepiekebaaGreatDoor

theorem mixed:Tryz.prog.follows .mixedOrders=true:=by kernel_rfl
theorem tyS3:tyS Tryz.prog 3=some (false,1):=by kernel_rfl
theorem tyS4:tyS Tryz.prog 4=some (false,1):=by kernel_rfl
theorem tyS5:tyS Tryz.prog 5=some (false,1):=by kernel_rfl
theorem tyS9:tyS Tryz.prog 9=some (false,1):=by kernel_rfl
theorem y11:tyS Tryz.prog 22=some (false,1):=by kernel_rfl
theorem Qy:tyS Tryz.prog 26=some (false,1):=by kernel_rfl
theorem y10:tyS Tryz.prog 27=some (false,1):=by kernel_rfl
theorem y1z:tyS Tryz.prog 28=some (false,1):=by kernel_rfl
theorem ui:tyS Tryz.prog 30=some (true,6):=by kernel_rfl
theorem x0f:tyS Tryz.prog 33=some (false,1):=by kernel_rfl
theorem qq:tyS Tryz.prog 37=some (false,1):=by kernel_rfl
theorem yn:tyS Tryz.prog 39=some (true,8):=by kernel_rfl
theorem z7n:tyS Tryz.prog 58=some (true,3):=by kernel_rfl
theorem Qx:tyS Tryz.prog 59=some (false,1):=by kernel_rfl
theorem Yo:tyS Tryz.prog 61=some (true,8):=by kernel_rfl
theorem qx:tyS Tryz.prog 64=some (true,3):=by kernel_rfl
theorem Qw:tyS Tryz.prog 80=some (true,5):=by kernel_rfl
theorem Yp:tyS Tryz.prog 113=some (true,2):=by kernel_rfl
theorem ub:tyS Tryz.prog 123=some (true,5):=by kernel_rfl
theorem x7x:tyP Tryz.prog 25=some [(0,1),(1,1)]:=by kernel_rfl
theorem x7w:tyP Tryz.prog 30=some [(0,1),(1,1),(2,1),(3,1),(4,1),(5,1)]:=by kernel_rfl
theorem je:tyP Tryz.prog 39=some [(0,1),(1,1),(2,1),(3,1),(4,1),(5,1),(6,1),(7,1)]:=by kernel_rfl
theorem x0h:tyP Tryz.prog 58=some [(0,1),(1,1),(2,1)]:=by kernel_rfl
theorem x7v:tyP Tryz.prog 61=some [(0,1),(1,1),(2,1),(3,1),(4,1),(5,1),(6,1),(7,1)]:=by kernel_rfl
theorem jr:tyP Tryz.prog 64=some [(0,1),(1,1),(2,1)]:=by kernel_rfl
theorem x0g:tyP Tryz.prog 80=some [(0,1),(1,1),(2,1),(3,1),(4,1)]:=by kernel_rfl
theorem x0j:tyP Tryz.prog 113=some [(0,1),(1,1)]:=by kernel_rfl
theorem x0i:tyP Tryz.prog 123=some [(0,1),(1,1),(2,1),(3,1),(4,1)]:=by kernel_rfl
theorem x7y:tyP Tryz.prog 225=some [(0,1),(1,1),(2,1),(3,1)]:=by kernel_rfl
theorem tyZ4:tyZ Tryz.prog 4=some [.bool false]:=by kernel_rfl
theorem tyZ9:tyZ Tryz.prog 9=some [.string ⟨#[]⟩]:=by kernel_rfl
theorem x7t:tyZ Tryz.prog 25=some [.slice none 0 0,.int .i64 0]:=by kernel_rfl
theorem y1w:tyZ Tryz.prog 30=some [.string ⟨#[]⟩,.string ⟨#[]⟩,.slice none 0 0,.slice none 0 0,.slice none 0 0,.int .i64 0]:=by kernel_rfl
theorem x0d:tyZ Tryz.prog 37=some [.slice none 0 0]:=by kernel_rfl
theorem wl:tyZ Tryz.prog 39=some [.string ⟨#[]⟩,.string ⟨#[]⟩,.string ⟨#[]⟩,.string ⟨#[]⟩,.slice none 0 0,.slice none 0 0,.int .i64 0,.int .i64 0]:=by kernel_rfl
theorem y1v:tyZ Tryz.prog 58=some [.string ⟨#[]⟩,.int .i64 0,.int .i64 0]:=by kernel_rfl
theorem y1u:tyZ Tryz.prog 61=some [.int .i64 0,.string ⟨#[]⟩,.string ⟨#[]⟩,.string ⟨#[]⟩,.string ⟨#[]⟩,.string ⟨#[]⟩,.slice none 0 0,.string ⟨#[]⟩]:=by kernel_rfl
theorem jd:tyZ Tryz.prog 64=some [.int .i64 0,.string ⟨#[]⟩,.slice none 0 0]:=by kernel_rfl
theorem z3t:tyZ Tryz.prog 80=some [.string ⟨#[]⟩,.string ⟨#[]⟩,.slice none 0 0,.int .i64 0,.int .i64 0]:=by kernel_rfl
theorem z3u:tyZ Tryz.prog 113=some [.string ⟨#[]⟩,.string ⟨#[]⟩]:=by kernel_rfl
theorem Qu:tyZ Tryz.prog 123=some [.string ⟨#[]⟩,.string ⟨#[]⟩,.int .i64 0,.int .i64 0,.int .i64 0]:=by kernel_rfl
theorem x7u:tyZ Tryz.prog 225=some [.slice none 0 0,.bool false,.int .i64 0,.bool false]:=by kernel_rfl
theorem y2b:tyF Tryz.prog 25 0=some (0,22):=by kernel_rfl
theorem z7p:tyF Tryz.prog 25 1=some (1,3):=by kernel_rfl
theorem z01:tyF Tryz.prog 30 0=some (0,9):=by kernel_rfl
theorem z7o:tyF Tryz.prog 30 1=some (1,9):=by kernel_rfl
theorem z32:tyF Tryz.prog 30 2=some (2,26):=by kernel_rfl
theorem y2a:tyF Tryz.prog 30 3=some (3,27):=by kernel_rfl
theorem y19:tyF Tryz.prog 30 4=some (4,28):=by kernel_rfl
theorem z00:tyF Tryz.prog 30 5=some (5,3):=by kernel_rfl
theorem z0z:tyF Tryz.prog 39 0=some (0,9):=by kernel_rfl
theorem z0y:tyF Tryz.prog 39 1=some (1,9):=by kernel_rfl
theorem z0x:tyF Tryz.prog 39 2=some (2,9):=by kernel_rfl
theorem Zv:tyF Tryz.prog 39 3=some (3,9):=by kernel_rfl
theorem uz:tyF Tryz.prog 39 4=some (4,37):=by kernel_rfl
theorem xo:tyF Tryz.prog 39 5=some (5,37):=by kernel_rfl
theorem Zu:tyF Tryz.prog 39 6=some (6,3):=by kernel_rfl
theorem Za:tyF Tryz.prog 39 7=some (7,3):=by kernel_rfl
theorem Zt:tyF Tryz.prog 58 0=some (0,9):=by kernel_rfl
theorem y18:tyF Tryz.prog 58 1=some (1,3):=by kernel_rfl
theorem y17:tyF Tryz.prog 58 2=some (2,3):=by kernel_rfl
theorem z0w:tyF Tryz.prog 61 0=some (0,3):=by kernel_rfl
theorem x0q:tyF Tryz.prog 61 1=some (1,9):=by kernel_rfl
theorem x0p:tyF Tryz.prog 61 2=some (2,9):=by kernel_rfl
theorem y6j:tyF Tryz.prog 61 3=some (3,9):=by kernel_rfl
theorem x0o:tyF Tryz.prog 61 4=some (4,9):=by kernel_rfl
theorem x0n:tyF Tryz.prog 61 5=some (5,9):=by kernel_rfl
theorem Wb:tyF Tryz.prog 61 6=some (6,59):=by kernel_rfl
theorem x0m:tyF Tryz.prog 61 7=some (7,9):=by kernel_rfl
theorem Qz:tyF Tryz.prog 64 0=some (0,3):=by kernel_rfl
theorem z30:tyF Tryz.prog 64 1=some (1,9):=by kernel_rfl
theorem Yq:tyF Tryz.prog 64 2=some (2,37):=by kernel_rfl
theorem xn:tyF Tryz.prog 80 0=some (0,9):=by kernel_rfl
theorem Zs:tyF Tryz.prog 80 1=some (1,9):=by kernel_rfl
theorem y16:tyF Tryz.prog 80 2=some (2,37):=by kernel_rfl
theorem y15:tyF Tryz.prog 80 3=some (3,3):=by kernel_rfl
theorem z3z:tyF Tryz.prog 80 4=some (4,3):=by kernel_rfl
theorem y2d:tyF Tryz.prog 113 0=some (0,9):=by kernel_rfl
theorem y2c:tyF Tryz.prog 113 1=some (1,9):=by kernel_rfl
theorem Zx:tyF Tryz.prog 123 0=some (0,9):=by kernel_rfl
theorem z33:tyF Tryz.prog 123 1=some (1,9):=by kernel_rfl
theorem Zw:tyF Tryz.prog 123 2=some (2,3):=by kernel_rfl
theorem We:tyF Tryz.prog 123 3=some (3,3):=by kernel_rfl
theorem Wd:tyF Tryz.prog 123 4=some (4,3):=by kernel_rfl
theorem z7q:tyF Tryz.prog 225 0=some (0,37):=by kernel_rfl
theorem x0r:tyF Tryz.prog 225 1=some (1,4):=by kernel_rfl
theorem Zb:tyF Tryz.prog 225 2=some (2,3):=by kernel_rfl
theorem Wc:tyF Tryz.prog 225 3=some (3,4):=by kernel_rfl
theorem x0t:tyE Tryz.prog 22=some (3,1):=by kernel_rfl
theorem uj:Elem Tryz.prog 22 3 1 8:=Elem.mk (z := .int .i64 0) (by kernel_rfl) (by kernel_rfl) rfl (by decide)
theorem uc:tyE Tryz.prog 26=some (123,5):=by kernel_rfl
theorem x0l:Elem Tryz.prog 26 123 5 56:=Elem.mk (z := .agg #[.string ⟨#[]⟩,.string ⟨#[]⟩,.int .i64 0,.int .i64 0,.int .i64 0]) (by kernel_rfl) (by kernel_rfl) rfl (by decide)
theorem y2f:tyE Tryz.prog 27=some (58,3):=by kernel_rfl
theorem y14:Elem Tryz.prog 27 58 3 32:=Elem.mk (z := .agg #[.string ⟨#[]⟩,.int .i64 0,.int .i64 0]) (by kernel_rfl) (by kernel_rfl) rfl (by decide)
theorem Yr:tyE Tryz.prog 28=some (80,5):=by kernel_rfl
theorem y13:Elem Tryz.prog 28 80 5 72:=Elem.mk (z := .agg #[.string ⟨#[]⟩,.string ⟨#[]⟩,.slice none 0 0,.int .i64 0,.int .i64 0]) (by kernel_rfl) (by kernel_rfl) rfl (by decide)
theorem qv:tyE Tryz.prog 37=some (9,1):=by kernel_rfl
theorem qn:Elem Tryz.prog 37 9 1 16:=Elem.mk (z := .string ⟨#[]⟩) (by kernel_rfl) (by kernel_rfl) rfl (by decide)
theorem y2e:tyE Tryz.prog 59=some (113,2):=by kernel_rfl
theorem y12:Elem Tryz.prog 59 113 2 32:=Elem.mk (z := .agg #[.string ⟨#[]⟩,.string ⟨#[]⟩]) (by kernel_rfl) (by kernel_rfl) rfl (by decide)
theorem x0s:tyE Tryz.prog 76=some (33,1):=by kernel_rfl
theorem x0k:Elem Tryz.prog 76 33 1 8:=Elem.mk (z := .int .i64 0) (by kernel_rfl) (by kernel_rfl) rfl (by decide)
theorem x71:tyE Tryz.prog 90=some (37,1):=by kernel_rfl
theorem x7z:Elem Tryz.prog 90 37 1 24:=Elem.mk (z := .slice none 0 0) (by kernel_rfl) (by kernel_rfl) rfl (by decide)
theorem x0u:tyE Tryz.prog 151=some (5,1):=by kernel_rfl
theorem z3y:Elem Tryz.prog 151 5 1 1:=Elem.mk (z := .int .u8 0) (by kernel_rfl) (by kernel_rfl) rfl (by decide)
theorem tyU2:Tryz.prog.underlying 2=some (.int .i64):=by kernel_rfl
theorem tyU3:Tryz.prog.underlying 3=some (.int .i64):=by kernel_rfl
theorem tyU5:Tryz.prog.underlying 5=some (.int .u8):=by kernel_rfl
theorem tyU9:Tryz.prog.underlying 9=some .string:=by kernel_rfl
theorem y1y:Tryz.prog.underlying 21=some (.int .i32):=by kernel_rfl
theorem y1x:Tryz.prog.underlying 22=some (.slice 3):=by kernel_rfl
theorem Qv:Tryz.prog.underlying 26=some (.slice 123):=by kernel_rfl
theorem z7l:Tryz.prog.underlying 27=some (.slice 58):=by kernel_rfl
theorem z3w:Tryz.prog.underlying 28=some (.slice 80):=by kernel_rfl
theorem qm:Tryz.prog.underlying 37=some (.slice 9):=by kernel_rfl
theorem z3v:Tryz.prog.underlying 59=some (.slice 113):=by kernel_rfl
theorem x0e:Tryz.prog.underlying 76=some (.slice 33):=by kernel_rfl
theorem xm:Tryz.prog.underlying 140=some (.int .u64):=by kernel_rfl
theorem z7m:Tryz.prog.underlying 142=some (.int .u64):=by kernel_rfl
theorem Zr:Tryz.prog.underlying 151=some (.slice 5):=by kernel_rfl
end Go.Proofs.YtndabcepiekebaaGreatDoor
