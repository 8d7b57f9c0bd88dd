/- Facts on the types of the program: read off its tables. Printed by a program. -/
import Derived.Test.YtbndlmnjeofkdadGreatDoorRows
import Derived.Test.YtbndlmnjeofkdadGreatDoorMb
namespace Go.Proofs.YtbndlmnjeofkdadGreatDoor

theorem mixed:Tryz.prog.follows .mixedOrders=true:=by kernel_rfl
theorem tyS3:tyS Tryz.prog 3=some (false,1):=by kernel_rfl
theorem tyS4:tyS Tryz.prog 4=some (false,1):=by kernel_rfl
theorem tyS5:tyS Tryz.prog 5=some (false,1):=by kernel_rfl
theorem tyS9:tyS Tryz.prog 9=some (false,1):=by kernel_rfl
theorem z7h:tyS Tryz.prog 22=some (false,1):=by kernel_rfl
theorem qk:tyS Tryz.prog 26=some (false,1):=by kernel_rfl
theorem yk:tyS Tryz.prog 28=some (true,8):=by kernel_rfl
theorem ui:tyS Tryz.prog 31=some (true,5):=by kernel_rfl
theorem z3g:tyS Tryz.prog 32=some (false,1):=by kernel_rfl
theorem y5x:tyS Tryz.prog 33=some (false,1):=by kernel_rfl
theorem y5w:tyS Tryz.prog 34=some (false,1):=by kernel_rfl
theorem z0s:tyS Tryz.prog 36=some (true,6):=by kernel_rfl
theorem we:tyS Tryz.prog 46=some (true,3):=by kernel_rfl
theorem z3f:tyS Tryz.prog 52=some (true,2):=by kernel_rfl
theorem z0r:tyS Tryz.prog 53=some (false,1):=by kernel_rfl
theorem x2j:tyS Tryz.prog 55=some (true,8):=by kernel_rfl
theorem z0q:tyS Tryz.prog 74=some (true,2):=by kernel_rfl
theorem y5v:tyS Tryz.prog 79=some (true,3):=by kernel_rfl
theorem Zt:tyS Tryz.prog 107=some (true,12):=by kernel_rfl
theorem z7k:tyS Tryz.prog 113=some (false,1):=by kernel_rfl
theorem z7j:tyS Tryz.prog 131=some (true,5):=by kernel_rfl
theorem z7i:tyS Tryz.prog 155=some (false,1):=by kernel_rfl
theorem y09:tyS Tryz.prog 164=some (true,3):=by kernel_rfl
theorem x2k:tyS Tryz.prog 193=some (false,1):=by kernel_rfl
theorem x2q:tyP Tryz.prog 25=some [(0,1),(1,1)]:=by kernel_rfl
theorem vm:tyP Tryz.prog 28=some [(0,1),(1,1),(2,1),(3,1),(4,1),(5,1),(6,1),(7,1)]:=by kernel_rfl
theorem y5z:tyP Tryz.prog 31=some [(0,1),(1,1),(2,1),(3,1),(4,1)]:=by kernel_rfl
theorem x2p:tyP Tryz.prog 36=some [(0,1),(1,1),(2,1),(3,1),(4,1),(5,1)]:=by kernel_rfl
theorem x2o:tyP Tryz.prog 42=some [(0,1),(1,1)]:=by kernel_rfl
theorem kv:tyP Tryz.prog 46=some [(0,1),(1,1),(2,1)]:=by kernel_rfl
theorem y5y:tyP Tryz.prog 52=some [(0,1),(1,1)]:=by kernel_rfl
theorem x2n:tyP Tryz.prog 55=some [(0,1),(1,1),(2,1),(3,1),(4,1),(5,1),(6,1),(7,1)]:=by kernel_rfl
theorem x2m:tyP Tryz.prog 74=some [(0,1),(1,1)]:=by kernel_rfl
theorem x2l:tyP Tryz.prog 79=some [(0,1),(1,1),(2,1)]:=by kernel_rfl
theorem y50:tyP Tryz.prog 107=some [(0,1),(1,1),(2,1),(3,1),(4,1),(5,1),(6,1),(7,1),(8,1),(9,1),(10,1),(11,1)]:=by kernel_rfl
theorem x2r:tyP Tryz.prog 248=some [(0,1),(1,1),(2,1),(3,1)]:=by kernel_rfl
theorem tyZ3:tyZ Tryz.prog 3=some [.int .i64 0]:=by kernel_rfl
theorem tyZ4:tyZ Tryz.prog 4=some [.bool false]:=by kernel_rfl
theorem tyZ9:tyZ Tryz.prog 9=some [.string ⟨#[]⟩]:=by kernel_rfl
theorem x2d:tyZ Tryz.prog 25=some [.slice none 0 0,.int .i64 0]:=by kernel_rfl
theorem x2c:tyZ Tryz.prog 26=some [.slice none 0 0]:=by kernel_rfl
theorem qx:tyZ Tryz.prog 28=some [.string ⟨#[]⟩,.string ⟨#[]⟩,.string ⟨#[]⟩,.string ⟨#[]⟩,.slice none 0 0,.slice none 0 0,.int .i64 0,.int .i64 0]:=by kernel_rfl
theorem z0o:tyZ Tryz.prog 31=some [.string ⟨#[]⟩,.string ⟨#[]⟩,.int .i64 0,.int .i64 0,.int .i64 0]:=by kernel_rfl
theorem y5t:tyZ Tryz.prog 36=some [.string ⟨#[]⟩,.string ⟨#[]⟩,.slice none 0 0,.slice none 0 0,.slice none 0 0,.int .i64 0]:=by kernel_rfl
theorem x2b:tyZ Tryz.prog 42=some [.int .i64 0,.int .i64 0]:=by kernel_rfl
theorem vx:tyZ Tryz.prog 46=some [.int .i64 0,.string ⟨#[]⟩,.slice none 0 0]:=by kernel_rfl
theorem z7e:tyZ Tryz.prog 52=some [.string ⟨#[]⟩,.string ⟨#[]⟩]:=by kernel_rfl
theorem x2a:tyZ Tryz.prog 55=some [.int .i64 0,.string ⟨#[]⟩,.string ⟨#[]⟩,.string ⟨#[]⟩,.string ⟨#[]⟩,.string ⟨#[]⟩,.slice none 0 0,.string ⟨#[]⟩]:=by kernel_rfl
theorem z7d:tyZ Tryz.prog 74=some [.string ⟨#[]⟩,.int .i64 0]:=by kernel_rfl
theorem x1z:tyZ Tryz.prog 79=some [.int .i64 0,.slice none 0 0,.string ⟨#[]⟩]:=by kernel_rfl
theorem z3d:tyZ Tryz.prog 107=some [.bool false,.bool false,.bool false,.bool false,.bool false,.bool false,.int .i64 0,.int .i64 0,.int .i64 0,.int .i64 0,.int .i64 0,.int .i64 0]:=by kernel_rfl
theorem y5u:tyZ Tryz.prog 131=some [.string ⟨#[]⟩,.string ⟨#[]⟩,.slice none 0 0,.int .i64 0,.int .i64 0]:=by kernel_rfl
theorem x2g:tyZ Tryz.prog 138=some [.pointer none,.slice none 0 0]:=by kernel_rfl
theorem x2f:tyZ Tryz.prog 164=some [.string ⟨#[]⟩,.int .i64 0,.int .i64 0]:=by kernel_rfl
theorem x2e:tyZ Tryz.prog 248=some [.slice none 0 0,.bool false,.int .i64 0,.bool false]:=by kernel_rfl
theorem z7o:tyF Tryz.prog 25 0=some (0,22):=by kernel_rfl
theorem z3k:tyF Tryz.prog 25 1=some (1,3):=by kernel_rfl
theorem z0u:tyF Tryz.prog 28 0=some (0,9):=by kernel_rfl
theorem z3j:tyF Tryz.prog 28 1=some (1,9):=by kernel_rfl
theorem z0t:tyF Tryz.prog 28 2=some (2,9):=by kernel_rfl
theorem Qc:tyF Tryz.prog 28 3=some (3,9):=by kernel_rfl
theorem xt:tyF Tryz.prog 28 4=some (4,26):=by kernel_rfl
theorem xr:tyF Tryz.prog 28 5=some (5,26):=by kernel_rfl
theorem ux:tyF Tryz.prog 28 6=some (6,3):=by kernel_rfl
theorem uw:tyF Tryz.prog 28 7=some (7,3):=by kernel_rfl
theorem z3i:tyF Tryz.prog 31 0=some (0,9):=by kernel_rfl
theorem y1k:tyF Tryz.prog 31 1=some (1,9):=by kernel_rfl
theorem z3h:tyF Tryz.prog 31 2=some (2,3):=by kernel_rfl
theorem y1j:tyF Tryz.prog 31 3=some (3,3):=by kernel_rfl
theorem z7n:tyF Tryz.prog 31 4=some (4,3):=by kernel_rfl
theorem y1i:tyF Tryz.prog 36 0=some (0,9):=by kernel_rfl
theorem y59:tyF Tryz.prog 36 1=some (1,9):=by kernel_rfl
theorem y1h:tyF Tryz.prog 36 2=some (2,32):=by kernel_rfl
theorem y58:tyF Tryz.prog 36 3=some (3,33):=by kernel_rfl
theorem y57:tyF Tryz.prog 36 4=some (4,34):=by kernel_rfl
theorem y1g:tyF Tryz.prog 36 5=some (5,3):=by kernel_rfl
theorem y56:tyF Tryz.prog 42 0=some (0,3):=by kernel_rfl
theorem y55:tyF Tryz.prog 42 1=some (1,3):=by kernel_rfl
theorem y1f:tyF Tryz.prog 46 0=some (0,3):=by kernel_rfl
theorem z7m:tyF Tryz.prog 46 1=some (1,9):=by kernel_rfl
theorem Zu:tyF Tryz.prog 46 2=some (2,26):=by kernel_rfl
theorem y54:tyF Tryz.prog 52 0=some (0,9):=by kernel_rfl
theorem y53:tyF Tryz.prog 52 1=some (1,9):=by kernel_rfl
theorem y1e:tyF Tryz.prog 55 0=some (0,3):=by kernel_rfl
theorem x3b:tyF Tryz.prog 55 1=some (1,9):=by kernel_rfl
theorem x3a:tyF Tryz.prog 55 2=some (2,9):=by kernel_rfl
theorem x28:tyF Tryz.prog 55 3=some (3,9):=by kernel_rfl
theorem x22:tyF Tryz.prog 55 4=some (4,9):=by kernel_rfl
theorem x20:tyF Tryz.prog 55 5=some (5,9):=by kernel_rfl
theorem y1d:tyF Tryz.prog 55 6=some (6,53):=by kernel_rfl
theorem x2z:tyF Tryz.prog 55 7=some (7,9):=by kernel_rfl
theorem z7l:tyF Tryz.prog 74 0=some (0,9):=by kernel_rfl
theorem y1c:tyF Tryz.prog 74 1=some (1,3):=by kernel_rfl
theorem x2y:tyF Tryz.prog 79 0=some (0,3):=by kernel_rfl
theorem y1b:tyF Tryz.prog 79 1=some (1,53):=by kernel_rfl
theorem x2x:tyF Tryz.prog 79 2=some (2,9):=by kernel_rfl
theorem x3k:tyF Tryz.prog 107 0=some (0,4):=by kernel_rfl
theorem y6f:tyF Tryz.prog 107 1=some (1,4):=by kernel_rfl
theorem x3h:tyF Tryz.prog 107 2=some (2,4):=by kernel_rfl
theorem x3g:tyF Tryz.prog 107 3=some (3,4):=by kernel_rfl
theorem x3f:tyF Tryz.prog 107 4=some (4,4):=by kernel_rfl
theorem x3e:tyF Tryz.prog 107 5=some (5,4):=by kernel_rfl
theorem y1n:tyF Tryz.prog 107 6=some (6,3):=by kernel_rfl
theorem y1m:tyF Tryz.prog 107 7=some (7,3):=by kernel_rfl
theorem x3d:tyF Tryz.prog 107 8=some (8,3):=by kernel_rfl
theorem x3c:tyF Tryz.prog 107 9=some (9,3):=by kernel_rfl
theorem x3j:tyF Tryz.prog 107 10=some (10,3):=by kernel_rfl
theorem x3i:tyF Tryz.prog 107 11=some (11,3):=by kernel_rfl
theorem Qd:tyF Tryz.prog 131 0=some (0,9):=by kernel_rfl
theorem z7q:tyF Tryz.prog 131 1=some (1,9):=by kernel_rfl
theorem y6e:tyF Tryz.prog 131 2=some (2,26):=by kernel_rfl
theorem y6d:tyF Tryz.prog 131 3=some (3,3):=by kernel_rfl
theorem y1l:tyF Tryz.prog 131 4=some (4,3):=by kernel_rfl
theorem z7p:tyF Tryz.prog 138 1=some (1,113):=by kernel_rfl
theorem z3m:tyF Tryz.prog 164 0=some (0,9):=by kernel_rfl
theorem y6c:tyF Tryz.prog 164 1=some (1,3):=by kernel_rfl
theorem y6b:tyF Tryz.prog 164 2=some (2,3):=by kernel_rfl
theorem z3l:tyF Tryz.prog 248 0=some (0,26):=by kernel_rfl
theorem y6a:tyF Tryz.prog 248 1=some (1,4):=by kernel_rfl
theorem uj:tyF Tryz.prog 248 2=some (2,3):=by kernel_rfl
theorem Zv:tyF Tryz.prog 248 3=some (3,4):=by kernel_rfl
theorem Zx:tyE Tryz.prog 22=some (3,1):=by kernel_rfl
theorem y1a:Elem Tryz.prog 22 3 1 8:=Elem.mk (z := .int .i64 0) (by kernel_rfl) (by kernel_rfl) rfl (by decide)
theorem qv:tyE Tryz.prog 26=some (9,1):=by kernel_rfl
theorem wz:Elem Tryz.prog 26 9 1 16:=Elem.mk (z := .string ⟨#[]⟩) (by kernel_rfl) (by kernel_rfl) rfl (by decide)
theorem Zw:tyE Tryz.prog 32=some (31,5):=by kernel_rfl
theorem x2t:Elem Tryz.prog 32 31 5 56:=Elem.mk (z := .agg #[.string ⟨#[]⟩,.string ⟨#[]⟩,.int .i64 0,.int .i64 0,.int .i64 0]) (by kernel_rfl) (by kernel_rfl) rfl (by decide)
theorem y1o:tyE Tryz.prog 33=some (164,3):=by kernel_rfl
theorem z3p:tyE Tryz.prog 34=some (131,5):=by kernel_rfl
theorem y6h:tyE Tryz.prog 53=some (52,2):=by kernel_rfl
theorem y52:Elem Tryz.prog 53 52 2 32:=Elem.mk (z := .agg #[.string ⟨#[]⟩,.string ⟨#[]⟩]) (by kernel_rfl) (by kernel_rfl) rfl (by decide)
theorem y6g:tyE Tryz.prog 63=some (26,1):=by kernel_rfl
theorem y51:Elem Tryz.prog 63 26 1 24:=Elem.mk (z := .slice none 0 0) (by kernel_rfl) (by kernel_rfl) rfl (by decide)
theorem z3o:tyE Tryz.prog 75=some (74,2):=by kernel_rfl
theorem x2s:Elem Tryz.prog 75 74 2 24:=Elem.mk (z := .agg #[.string ⟨#[]⟩,.int .i64 0]) (by kernel_rfl) (by kernel_rfl) rfl (by decide)
theorem y6i:tyE Tryz.prog 113=some (5,1):=by kernel_rfl
theorem Qb:Elem Tryz.prog 113 5 1 1:=Elem.mk (z := .int .u8 0) (by kernel_rfl) (by kernel_rfl) rfl (by decide)
theorem z7r:tyE Tryz.prog 151=some (155,1):=by kernel_rfl
theorem x2v:Elem Tryz.prog 151 155 1 8:=Elem.mk (z := .pointer none) (by kernel_rfl) (by kernel_rfl) rfl (by decide)
theorem x3l:tyE Tryz.prog 189=some (193,1):=by kernel_rfl
theorem x2u:Elem Tryz.prog 189 193 1 8:=Elem.mk (z := .pointer none) (by kernel_rfl) (by kernel_rfl) rfl (by decide)
theorem tyU2:Tryz.prog.underlying 2=some (.int .i64):=by kernel_rfl
theorem tyU3:Tryz.prog.underlying 3=some (.int .i64):=by kernel_rfl
theorem tyU5:Tryz.prog.underlying 5=some (.int .u8):=by kernel_rfl
theorem tyU9:Tryz.prog.underlying 9=some .string:=by kernel_rfl
theorem z7g:Tryz.prog.underlying 22=some (.slice 3):=by kernel_rfl
theorem qi:Tryz.prog.underlying 26=some (.slice 9):=by kernel_rfl
theorem z7f:Tryz.prog.underlying 32=some (.slice 31):=by kernel_rfl
theorem y08:Tryz.prog.underlying 33=some (.slice 164):=by kernel_rfl
theorem y07:Tryz.prog.underlying 34=some (.slice 131):=by kernel_rfl
theorem y06:Tryz.prog.underlying 53=some (.slice 52):=by kernel_rfl
theorem x2h:Tryz.prog.underlying 63=some (.slice 26):=by kernel_rfl
theorem z0p:Tryz.prog.underlying 75=some (.slice 74):=by kernel_rfl
theorem xq:Tryz.prog.underlying 113=some (.slice 5):=by kernel_rfl
theorem z3e:Tryz.prog.underlying 114=some (.int .u64):=by kernel_rfl
theorem uh:Tryz.prog.underlying 121=some (.int .u64):=by kernel_rfl
theorem x2i:Tryz.prog.underlying 151=some (.slice 155):=by kernel_rfl
end Go.Proofs.YtbndlmnjeofkdadGreatDoor
