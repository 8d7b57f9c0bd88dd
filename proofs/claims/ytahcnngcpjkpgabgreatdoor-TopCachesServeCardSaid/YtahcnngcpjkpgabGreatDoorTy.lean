/- Facts on the types of the program: read off its tables. Printed by a program. -/
import Derived.Test.YtahcnngcpjkpgabGreatDoorRows
import Derived.Test.YtahcnngcpjkpgabGreatDoorMb
namespace Go.Proofs.YtahcnngcpjkpgabGreatDoor

theorem mixed:Tryz.prog.follows .mixedOrders=true:=by kernel_rfl
theorem tyS3:tyS Tryz.prog 3=some (false,1):=by kernel_rfl
theorem tyS4:tyS Tryz.prog 4=some (false,1):=by kernel_rfl
theorem tyS5:tyS Tryz.prog 5=some (false,1):=by kernel_rfl
theorem tyS9:tyS Tryz.prog 9=some (false,1):=by kernel_rfl
theorem y1c:tyS Tryz.prog 22=some (false,1):=by kernel_rfl
theorem qu:tyS Tryz.prog 29=some (false,1):=by kernel_rfl
theorem qg:tyS Tryz.prog 31=some (true,3):=by kernel_rfl
theorem qa:tyS Tryz.prog 36=some (true,8):=by kernel_rfl
theorem vx:tyS Tryz.prog 54=some (true,2):=by kernel_rfl
theorem z7p:tyS Tryz.prog 58=some (false,1):=by kernel_rfl
theorem xf:tyS Tryz.prog 75=some (true,3):=by kernel_rfl
theorem uw:tyS Tryz.prog 83=some (false,1):=by kernel_rfl
theorem z39:tyS Tryz.prog 91=some (true,2):=by kernel_rfl
theorem y1e:tyS Tryz.prog 102=some (false,1):=by kernel_rfl
theorem y5s:tyS Tryz.prog 108=some (true,14):=by kernel_rfl
theorem ub:tyS Tryz.prog 121=some (true,12):=by kernel_rfl
theorem ua:tyS Tryz.prog 164=some (true,2):=by kernel_rfl
theorem y1d:tyS Tryz.prog 184=some (false,1):=by kernel_rfl
theorem w0i:tyS Tryz.prog 234=some (false,1):=by kernel_rfl
theorem w0m:tyP Tryz.prog 25=some [(0,1),(1,1)]:=by kernel_rfl
theorem uc:tyP Tryz.prog 31=some [(0,1),(1,1),(2,1)]:=by kernel_rfl
theorem xq:tyP Tryz.prog 36=some [(0,1),(1,1),(2,1),(3,1),(4,1),(5,1),(6,1),(7,1)]:=by kernel_rfl
theorem Yy:tyP Tryz.prog 54=some [(0,1),(1,1)]:=by kernel_rfl
theorem w0l:tyP Tryz.prog 85=some [(0,1),(1,1),(2,1),(3,1)]:=by kernel_rfl
theorem w0k:tyP Tryz.prog 91=some [(0,1),(1,1)]:=by kernel_rfl
theorem w0o:tyP Tryz.prog 108=some [(0,8),(8,3),(11,1),(12,1),(13,1)]:=by kernel_rfl
theorem w0n:tyP Tryz.prog 110=some [(0,14),(14,8)]:=by kernel_rfl
theorem x1k:tyP Tryz.prog 121=some [(0,1),(1,1),(2,1),(3,1),(4,1),(5,1),(6,1),(7,1),(8,1),(9,1),(10,1),(11,1)]:=by kernel_rfl
theorem y5t:tyP Tryz.prog 164=some [(0,1),(1,1)]:=by kernel_rfl
theorem tyZ3:tyZ Tryz.prog 3=some [.int .i64 0]:=by kernel_rfl
theorem w0d:tyZ Tryz.prog 25=some [.slice none 0 0,.int .i64 0]:=by kernel_rfl
theorem vu:tyZ Tryz.prog 31=some [.int .i64 0,.slice none 0 0,.string ⟨#[]⟩]:=by kernel_rfl
theorem jm:tyZ Tryz.prog 36=some [.int .i64 0,.string ⟨#[]⟩,.string ⟨#[]⟩,.string ⟨#[]⟩,.string ⟨#[]⟩,.string ⟨#[]⟩,.slice none 0 0,.string ⟨#[]⟩]:=by kernel_rfl
theorem ky:tyZ Tryz.prog 54=some [.string ⟨#[]⟩,.string ⟨#[]⟩]:=by kernel_rfl
theorem z35:tyZ Tryz.prog 60=some [.pointer none,.slice none 0 0]:=by kernel_rfl
theorem y09:tyZ Tryz.prog 75=some [.string ⟨#[]⟩,.slice none 0 0,.int .i64 0]:=by kernel_rfl
theorem w0c:tyZ Tryz.prog 85=some [.int .i64 0,.int .i64 0,.int .i64 0,.slice none 0 0]:=by kernel_rfl
theorem y08:tyZ Tryz.prog 91=some [.string ⟨#[]⟩,.int .i64 0]:=by kernel_rfl
theorem w0f:tyZ Tryz.prog 108=some [.int .i64 0,.string ⟨#[]⟩,.string ⟨#[]⟩,.string ⟨#[]⟩,.string ⟨#[]⟩,.string ⟨#[]⟩,.slice none 0 0,.string ⟨#[]⟩,.int .i64 0,.slice none 0 0,.string ⟨#[]⟩,.int .i64 0,.slice none 0 0,.int .i64 0]:=by kernel_rfl
theorem w0e:tyZ Tryz.prog 110=some [.int .i64 0,.string ⟨#[]⟩,.string ⟨#[]⟩,.string ⟨#[]⟩,.string ⟨#[]⟩,.string ⟨#[]⟩,.slice none 0 0,.string ⟨#[]⟩,.int .i64 0,.slice none 0 0,.string ⟨#[]⟩,.int .i64 0,.slice none 0 0,.int .i64 0,.int .i64 0,.string ⟨#[]⟩,.string ⟨#[]⟩,.string ⟨#[]⟩,.string ⟨#[]⟩,.string ⟨#[]⟩,.slice none 0 0,.string ⟨#[]⟩]:=by kernel_rfl
theorem Yx:tyZ Tryz.prog 121=some [.bool false,.bool false,.bool false,.bool false,.bool false,.bool false,.int .i64 0,.int .i64 0,.int .i64 0,.int .i64 0,.int .i64 0,.int .i64 0]:=by kernel_rfl
theorem z36:tyZ Tryz.prog 164=some [.string ⟨#[]⟩,.string ⟨#[]⟩]:=by kernel_rfl
theorem y1i:tyF Tryz.prog 25 0=some (0,22):=by kernel_rfl
theorem z7v:tyF Tryz.prog 25 1=some (1,3):=by kernel_rfl
theorem xr:tyF Tryz.prog 31 0=some (0,3):=by kernel_rfl
theorem kq:tyF Tryz.prog 31 1=some (1,29):=by kernel_rfl
theorem z1i:tyF Tryz.prog 31 2=some (2,9):=by kernel_rfl
theorem z1h:tyF Tryz.prog 36 0=some (0,3):=by kernel_rfl
theorem ul:tyF Tryz.prog 36 1=some (1,9):=by kernel_rfl
theorem z1g:tyF Tryz.prog 36 2=some (2,9):=by kernel_rfl
theorem Yz:tyF Tryz.prog 36 3=some (3,9):=by kernel_rfl
theorem Yd:tyF Tryz.prog 36 4=some (4,9):=by kernel_rfl
theorem w0t:tyF Tryz.prog 36 5=some (5,9):=by kernel_rfl
theorem jt:tyF Tryz.prog 36 6=some (6,29):=by kernel_rfl
theorem y1h:tyF Tryz.prog 36 7=some (7,9):=by kernel_rfl
theorem Wm:tyF Tryz.prog 54 0=some (0,9):=by kernel_rfl
theorem y1g:tyF Tryz.prog 54 1=some (1,9):=by kernel_rfl
theorem z7u:tyF Tryz.prog 60 1=some (1,58):=by kernel_rfl
theorem y5v:tyF Tryz.prog 75 0=some (0,9):=by kernel_rfl
theorem Wl:tyF Tryz.prog 75 1=some (1,29):=by kernel_rfl
theorem z7t:tyF Tryz.prog 75 2=some (2,3):=by kernel_rfl
theorem x1o:tyF Tryz.prog 85 0=some (0,3):=by kernel_rfl
theorem x1n:tyF Tryz.prog 85 1=some (1,3):=by kernel_rfl
theorem z7s:tyF Tryz.prog 85 2=some (2,3):=by kernel_rfl
theorem ux:tyF Tryz.prog 85 3=some (3,83):=by kernel_rfl
theorem y1f:tyF Tryz.prog 91 0=some (0,9):=by kernel_rfl
theorem y5u:tyF Tryz.prog 91 1=some (1,3):=by kernel_rfl
theorem y53:tyF Tryz.prog 108 0=some (0,36):=by kernel_rfl
theorem z1j:tyF Tryz.prog 108 1=some (8,31):=by kernel_rfl
theorem w0w:tyF Tryz.prog 108 2=some (11,3):=by kernel_rfl
theorem w0v:tyF Tryz.prog 108 4=some (13,3):=by kernel_rfl
theorem Wn:tyF Tryz.prog 110 0=some (0,108):=by kernel_rfl
theorem x1r:tyF Tryz.prog 110 1=some (14,36):=by kernel_rfl
theorem y52:tyF Tryz.prog 121 0=some (0,4):=by kernel_rfl
theorem y1k:tyF Tryz.prog 121 1=some (1,4):=by kernel_rfl
theorem x1q:tyF Tryz.prog 121 2=some (2,4):=by kernel_rfl
theorem x1p:tyF Tryz.prog 121 3=some (3,4):=by kernel_rfl
theorem y5z:tyF Tryz.prog 121 4=some (4,4):=by kernel_rfl
theorem y5y:tyF Tryz.prog 121 5=some (5,4):=by kernel_rfl
theorem z7x:tyF Tryz.prog 121 6=some (6,3):=by kernel_rfl
theorem y1j:tyF Tryz.prog 121 7=some (7,3):=by kernel_rfl
theorem y5x:tyF Tryz.prog 121 8=some (8,3):=by kernel_rfl
theorem w0u:tyF Tryz.prog 121 9=some (9,3):=by kernel_rfl
theorem y51:tyF Tryz.prog 121 10=some (10,3):=by kernel_rfl
theorem y50:tyF Tryz.prog 121 11=some (11,3):=by kernel_rfl
theorem z7w:tyF Tryz.prog 164 0=some (0,9):=by kernel_rfl
theorem y5w:tyF Tryz.prog 164 1=some (1,9):=by kernel_rfl
theorem Qa:tyE Tryz.prog 22=some (3,1):=by kernel_rfl
theorem z7r:Elem Tryz.prog 22 3 1 8:=Elem.mk (z := .int .i64 0) (by kernel_rfl) (by kernel_rfl) rfl (by decide)
theorem uy:tyE Tryz.prog 29=some (54,2):=by kernel_rfl
theorem js:Elem Tryz.prog 29 54 2 32:=Elem.mk (z := .agg #[.string ⟨#[]⟩,.string ⟨#[]⟩]) (by kernel_rfl) (by kernel_rfl) rfl (by decide)
theorem x1s:tyE Tryz.prog 58=some (5,1):=by kernel_rfl
theorem z7q:Elem Tryz.prog 58 5 1 1:=Elem.mk (z := .int .u8 0) (by kernel_rfl) (by kernel_rfl) rfl (by decide)
theorem y1l:tyE Tryz.prog 83=some (102,1):=by kernel_rfl
theorem x1l:Elem Tryz.prog 83 102 1 8:=Elem.mk (z := .pointer none) (by kernel_rfl) (by kernel_rfl) rfl (by decide)
theorem vp:tyE Tryz.prog 87=some (9,1):=by kernel_rfl
theorem qr:Elem Tryz.prog 87 9 1 16:=Elem.mk (z := .string ⟨#[]⟩) (by kernel_rfl) (by kernel_rfl) rfl (by decide)
theorem z7z:tyE Tryz.prog 92=some (91,2):=by kernel_rfl
theorem w0p:Elem Tryz.prog 92 91 2 24:=Elem.mk (z := .agg #[.string ⟨#[]⟩,.int .i64 0]) (by kernel_rfl) (by kernel_rfl) rfl (by decide)
theorem xt:tyE Tryz.prog 160=some (164,2):=by kernel_rfl
theorem x1m:Elem Tryz.prog 160 164 2 32:=Elem.mk (z := .agg #[.string ⟨#[]⟩,.string ⟨#[]⟩]) (by kernel_rfl) (by kernel_rfl) rfl (by decide)
theorem y1m:tyE Tryz.prog 180=some (184,1):=by kernel_rfl
theorem w0r:Elem Tryz.prog 180 184 1 8:=Elem.mk (z := .pointer none) (by kernel_rfl) (by kernel_rfl) rfl (by decide)
theorem w0x:tyE Tryz.prog 231=some (234,1):=by kernel_rfl
theorem w0q:Elem Tryz.prog 231 234 1 8:=Elem.mk (z := .pointer none) (by kernel_rfl) (by kernel_rfl) rfl (by decide)
theorem tyU2:Tryz.prog.underlying 2=some (.int .i64):=by kernel_rfl
theorem tyU3:Tryz.prog.underlying 3=some (.int .i64):=by kernel_rfl
theorem tyU5:Tryz.prog.underlying 5=some (.int .u8):=by kernel_rfl
theorem tyU9:Tryz.prog.underlying 9=some .string:=by kernel_rfl
theorem y1a:Tryz.prog.underlying 21=some (.int .i32):=by kernel_rfl
theorem z7o:Tryz.prog.underlying 22=some (.slice 3):=by kernel_rfl
theorem kz:Tryz.prog.underlying 29=some (.slice 54):=by kernel_rfl
theorem w0g:Tryz.prog.underlying 38=some (.pointer 85):=by kernel_rfl
theorem z1e:Tryz.prog.underlying 58=some (.slice 5):=by kernel_rfl
theorem Zk:Tryz.prog.underlying 83=some (.slice 102):=by kernel_rfl
theorem wl:Tryz.prog.underlying 87=some (.slice 9):=by kernel_rfl
theorem z38:Tryz.prog.underlying 92=some (.slice 91):=by kernel_rfl
theorem Yc:Tryz.prog.underlying 102=some (.pointer 110):=by kernel_rfl
theorem y1b:Tryz.prog.underlying 132=some (.int .u64):=by kernel_rfl
theorem z1f:Tryz.prog.underlying 160=some (.slice 164):=by kernel_rfl
theorem w0h:Tryz.prog.underlying 180=some (.slice 184):=by kernel_rfl
theorem x1h:Tryz.prog.underlying 190=some (.int .u32):=by kernel_rfl
theorem Wj:Tryz.prog.underlying 193=some (.int .u64):=by kernel_rfl
theorem w0j:tyQ Tryz.prog 54=some [.string,.string]:=by kernel_rfl
theorem x1j:tyQ Tryz.prog 164=some [.string,.string]:=by kernel_rfl
end Go.Proofs.YtahcnngcpjkpgabGreatDoor
