/- Facts on the types of the program: read off its tables. Printed by a program. -/
import Derived.Test.YtmdllhcjefcggacGreatDoorRows
import Derived.Test.YtmdllhcjefcggacGreatDoorMb
namespace Go.Proofs.YtmdllhcjefcggacGreatDoor

theorem mixed:Tryz.prog.follows .mixedOrders=true:=by kernel_rfl
theorem tyS3:tyS Tryz.prog 3=some (false,1):=by kernel_rfl
theorem tyS4:tyS Tryz.prog 4=some (false,1):=by kernel_rfl
theorem tyS5:tyS Tryz.prog 5=some (false,1):=by kernel_rfl
theorem tyS9:tyS Tryz.prog 9=some (false,1):=by kernel_rfl
theorem y0d:tyS Tryz.prog 22=some (false,1):=by kernel_rfl
theorem wu:tyS Tryz.prog 26=some (false,1):=by kernel_rfl
theorem yp:tyS Tryz.prog 28=some (true,8):=by kernel_rfl
theorem ub:tyS Tryz.prog 30=some (true,3):=by kernel_rfl
theorem jj:tyS Tryz.prog 31=some (false,1):=by kernel_rfl
theorem wo:tyS Tryz.prog 33=some (true,14):=by kernel_rfl
theorem y8m:tyS Tryz.prog 37=some (false,1):=by kernel_rfl
theorem jx:tyS Tryz.prog 62=some (true,2):=by kernel_rfl
theorem jt:tyS Tryz.prog 112=some (true,2):=by kernel_rfl
theorem Qn:tyS Tryz.prog 121=some (true,12):=by kernel_rfl
theorem y0g:tyS Tryz.prog 129=some (false,1):=by kernel_rfl
theorem y0f:tyS Tryz.prog 158=some (true,2):=by kernel_rfl
theorem y0e:tyS Tryz.prog 174=some (false,1):=by kernel_rfl
theorem x5u:tyS Tryz.prog 221=some (false,1):=by kernel_rfl
theorem x5w:tyP Tryz.prog 25=some [(0,1),(1,1)]:=by kernel_rfl
theorem Yg:tyP Tryz.prog 28=some [(0,1),(1,1),(2,1),(3,1),(4,1),(5,1),(6,1),(7,1)]:=by kernel_rfl
theorem y8p:tyP Tryz.prog 30=some [(0,1),(1,1),(2,1)]:=by kernel_rfl
theorem y8o:tyP Tryz.prog 33=some [(0,8),(8,3),(11,1),(12,1),(13,1)]:=by kernel_rfl
theorem z0h:tyP Tryz.prog 62=some [(0,1),(1,1)]:=by kernel_rfl
theorem y0h:tyP Tryz.prog 112=some [(0,1),(1,1)]:=by kernel_rfl
theorem y8r:tyP Tryz.prog 121=some [(0,1),(1,1),(2,1),(3,1),(4,1),(5,1),(6,1),(7,1),(8,1),(9,1),(10,1),(11,1)]:=by kernel_rfl
theorem y8q:tyP Tryz.prog 158=some [(0,1),(1,1)]:=by kernel_rfl
theorem tyZ3:tyZ Tryz.prog 3=some [.int .i64 0]:=by kernel_rfl
theorem x5s:tyZ Tryz.prog 25=some [.slice none 0 0,.int .i64 0]:=by kernel_rfl
theorem vt:tyZ Tryz.prog 28=some [.int .i64 0,.string ⟨#[]⟩,.string ⟨#[]⟩,.string ⟨#[]⟩,.string ⟨#[]⟩,.string ⟨#[]⟩,.slice none 0 0,.string ⟨#[]⟩]:=by kernel_rfl
theorem z99:tyZ Tryz.prog 30=some [.int .i64 0,.slice none 0 0,.string ⟨#[]⟩]:=by kernel_rfl
theorem y8i:tyZ Tryz.prog 31=some [.slice none 0 0]:=by kernel_rfl
theorem xq:tyZ Tryz.prog 33=some [.int .i64 0,.string ⟨#[]⟩,.string ⟨#[]⟩,.string ⟨#[]⟩,.string ⟨#[]⟩,.string ⟨#[]⟩,.slice none 0 0,.string ⟨#[]⟩,.int .i64 0,.slice none 0 0,.string ⟨#[]⟩,.int .i64 0,.slice none 0 0,.int .i64 0]:=by kernel_rfl
theorem kl:tyZ Tryz.prog 62=some [.string ⟨#[]⟩,.string ⟨#[]⟩]:=by kernel_rfl
theorem Qk:tyZ Tryz.prog 112=some [.string ⟨#[]⟩,.string ⟨#[]⟩]:=by kernel_rfl
theorem z6y:tyZ Tryz.prog 121=some [.bool false,.bool false,.bool false,.bool false,.bool false,.bool false,.int .i64 0,.int .i64 0,.int .i64 0,.int .i64 0,.int .i64 0,.int .i64 0]:=by kernel_rfl
theorem y37:tyZ Tryz.prog 131=some [.pointer none,.slice none 0 0]:=by kernel_rfl
theorem y0a:tyZ Tryz.prog 158=some [.int .u8 0,.bool false]:=by kernel_rfl
theorem y0m:tyF Tryz.prog 25 0=some (0,22):=by kernel_rfl
theorem z61:tyF Tryz.prog 25 1=some (1,3):=by kernel_rfl
theorem y8w:tyF Tryz.prog 28 0=some (0,3):=by kernel_rfl
theorem uc:tyF Tryz.prog 28 1=some (1,9):=by kernel_rfl
theorem ur:tyF Tryz.prog 28 2=some (2,9):=by kernel_rfl
theorem uq:tyF Tryz.prog 28 3=some (3,9):=by kernel_rfl
theorem uo:tyF Tryz.prog 28 4=some (4,9):=by kernel_rfl
theorem y8v:tyF Tryz.prog 28 5=some (5,9):=by kernel_rfl
theorem vz:tyF Tryz.prog 28 6=some (6,26):=by kernel_rfl
theorem y8u:tyF Tryz.prog 28 7=some (7,9):=by kernel_rfl
theorem y38:tyF Tryz.prog 30 0=some (0,3):=by kernel_rfl
theorem xt:tyF Tryz.prog 30 1=some (1,26):=by kernel_rfl
theorem y0l:tyF Tryz.prog 30 2=some (2,9):=by kernel_rfl
theorem un:tyF Tryz.prog 33 0=some (0,28):=by kernel_rfl
theorem um:tyF Tryz.prog 33 1=some (8,30):=by kernel_rfl
theorem xd:tyF Tryz.prog 33 2=some (11,3):=by kernel_rfl
theorem z0j:tyF Tryz.prog 33 3=some (12,31):=by kernel_rfl
theorem y0k:tyF Tryz.prog 33 4=some (13,3):=by kernel_rfl
theorem Yh:tyF Tryz.prog 62 0=some (0,9):=by kernel_rfl
theorem z0i:tyF Tryz.prog 62 1=some (1,9):=by kernel_rfl
theorem xe:tyF Tryz.prog 112 0=some (0,9):=by kernel_rfl
theorem Qo:tyF Tryz.prog 112 1=some (1,9):=by kernel_rfl
theorem x6a:tyF Tryz.prog 121 0=some (0,4):=by kernel_rfl
theorem y8x:tyF Tryz.prog 121 1=some (1,4):=by kernel_rfl
theorem x57:tyF Tryz.prog 121 2=some (2,4):=by kernel_rfl
theorem x56:tyF Tryz.prog 121 3=some (3,4):=by kernel_rfl
theorem x55:tyF Tryz.prog 121 4=some (4,4):=by kernel_rfl
theorem x54:tyF Tryz.prog 121 5=some (5,4):=by kernel_rfl
theorem y4a:tyF Tryz.prog 121 6=some (6,3):=by kernel_rfl
theorem y39:tyF Tryz.prog 121 7=some (7,3):=by kernel_rfl
theorem x53:tyF Tryz.prog 121 8=some (8,3):=by kernel_rfl
theorem x52:tyF Tryz.prog 121 9=some (9,3):=by kernel_rfl
theorem x59:tyF Tryz.prog 121 10=some (10,3):=by kernel_rfl
theorem x58:tyF Tryz.prog 121 11=some (11,3):=by kernel_rfl
theorem y0n:tyF Tryz.prog 131 1=some (1,129):=by kernel_rfl
theorem z62:tyF Tryz.prog 158 0=some (0,5):=by kernel_rfl
theorem x51:tyF Tryz.prog 158 1=some (1,4):=by kernel_rfl
theorem y80:tyE Tryz.prog 22=some (3,1):=by kernel_rfl
theorem z60:Elem Tryz.prog 22 3 1 8:=Elem.mk (z := .int .i64 0) (by kernel_rfl) (by kernel_rfl) rfl (by decide)
theorem Yi:tyE Tryz.prog 26=some (62,2):=by kernel_rfl
theorem kn:Elem Tryz.prog 26 62 2 32:=Elem.mk (z := .agg #[.string ⟨#[]⟩,.string ⟨#[]⟩]) (by kernel_rfl) (by kernel_rfl) rfl (by decide)
theorem vn:tyE Tryz.prog 31=some (9,1):=by kernel_rfl
theorem qf:Elem Tryz.prog 31 9 1 16:=Elem.mk (z := .string ⟨#[]⟩) (by kernel_rfl) (by kernel_rfl) rfl (by decide)
theorem z0k:tyE Tryz.prog 50=some (33,14):=by kernel_rfl
theorem z27:Elem Tryz.prog 50 33 14 216:=Elem.mk (z := .agg #[.int .i64 0,.string ⟨#[]⟩,.string ⟨#[]⟩,.string ⟨#[]⟩,.string ⟨#[]⟩,.string ⟨#[]⟩,.slice none 0 0,.string ⟨#[]⟩,.int .i64 0,.slice none 0 0,.string ⟨#[]⟩,.int .i64 0,.slice none 0 0,.int .i64 0]) (by kernel_rfl) (by kernel_rfl) rfl (by decide)
theorem y8z:tyE Tryz.prog 56=some (31,1):=by kernel_rfl
theorem y8t:Elem Tryz.prog 56 31 1 24:=Elem.mk (z := .slice none 0 0) (by kernel_rfl) (by kernel_rfl) rfl (by decide)
theorem y8y:tyE Tryz.prog 69=some (37,1):=by kernel_rfl
theorem z6z:Elem Tryz.prog 69 37 1 8:=Elem.mk (z := .int .i64 0) (by kernel_rfl) (by kernel_rfl) rfl (by decide)
theorem x6b:tyE Tryz.prog 85=some (28,8):=by kernel_rfl
theorem y8s:Elem Tryz.prog 85 28 8 128:=Elem.mk (z := .agg #[.int .i64 0,.string ⟨#[]⟩,.string ⟨#[]⟩,.string ⟨#[]⟩,.string ⟨#[]⟩,.string ⟨#[]⟩,.slice none 0 0,.string ⟨#[]⟩]) (by kernel_rfl) (by kernel_rfl) rfl (by decide)
theorem ut:tyE Tryz.prog 108=some (112,2):=by kernel_rfl
theorem y0j:Elem Tryz.prog 108 112 2 32:=Elem.mk (z := .agg #[.string ⟨#[]⟩,.string ⟨#[]⟩]) (by kernel_rfl) (by kernel_rfl) rfl (by decide)
theorem y82:tyE Tryz.prog 129=some (5,1):=by kernel_rfl
theorem Zi:Elem Tryz.prog 129 5 1 1:=Elem.mk (z := .int .u8 0) (by kernel_rfl) (by kernel_rfl) rfl (by decide)
theorem y81:tyE Tryz.prog 154=some (158,2):=by kernel_rfl
theorem y0i:Elem Tryz.prog 154 158 2 2:=Elem.mk (z := .agg #[.int .u8 0,.bool false]) (by kernel_rfl) (by kernel_rfl) rfl (by decide)
theorem y0o:tyE Tryz.prog 170=some (174,1):=by kernel_rfl
theorem x5y:Elem Tryz.prog 170 174 1 8:=Elem.mk (z := .pointer none) (by kernel_rfl) (by kernel_rfl) rfl (by decide)
theorem x6c:tyE Tryz.prog 218=some (221,1):=by kernel_rfl
theorem x5x:Elem Tryz.prog 218 221 1 8:=Elem.mk (z := .pointer none) (by kernel_rfl) (by kernel_rfl) rfl (by decide)
theorem tyU2:Tryz.prog.underlying 2=some (.int .i64):=by kernel_rfl
theorem tyU3:Tryz.prog.underlying 3=some (.int .i64):=by kernel_rfl
theorem tyU4:Tryz.prog.underlying 4=some .bool:=by kernel_rfl
theorem tyU5:Tryz.prog.underlying 5=some (.int .u8):=by kernel_rfl
theorem tyU9:Tryz.prog.underlying 9=some .string:=by kernel_rfl
theorem z26:Tryz.prog.underlying 21=some (.int .i32):=by kernel_rfl
theorem y0b:Tryz.prog.underlying 22=some (.slice 3):=by kernel_rfl
theorem xc:Tryz.prog.underlying 26=some (.slice 62):=by kernel_rfl
theorem wt:Tryz.prog.underlying 31=some (.slice 9):=by kernel_rfl
theorem Ql:Tryz.prog.underlying 50=some (.slice 33):=by kernel_rfl
theorem y8j:Tryz.prog.underlying 69=some (.slice 37):=by kernel_rfl
theorem xr:Tryz.prog.underlying 108=some (.slice 112):=by kernel_rfl
theorem y0c:Tryz.prog.underlying 125=some (.int .u64):=by kernel_rfl
theorem Qm:Tryz.prog.underlying 129=some (.slice 5):=by kernel_rfl
theorem y8l:Tryz.prog.underlying 154=some (.slice 158):=by kernel_rfl
theorem x5t:Tryz.prog.underlying 170=some (.slice 174):=by kernel_rfl
theorem y8k:Tryz.prog.underlying 176=some (.int .u32):=by kernel_rfl
theorem Yf:Tryz.prog.underlying 179=some (.int .u64):=by kernel_rfl
theorem y8n:tyQ Tryz.prog 112=some [.string,.string]:=by kernel_rfl
end Go.Proofs.YtmdllhcjefcggacGreatDoor
