/- Facts on the types of the program: read off its tables. Printed by a program. -/
import Derived.Test.YtfindajhhadihaaGreatDoorRows
import Derived.Test.YtfindajhhadihaaGreatDoorMb
namespace Go.Proofs.YtfindajhhadihaaGreatDoor

theorem mixed:Tryz.prog.follows .mixedOrders=true:=by kernel_rfl
theorem tyS3:tyS Tryz.prog 3=some (false,1):=by kernel_rfl
theorem tyS4:tyS Tryz.prog 4=some (false,1):=by kernel_rfl
theorem tyS5:tyS Tryz.prog 5=some (false,1):=by kernel_rfl
theorem tyS9:tyS Tryz.prog 9=some (false,1):=by kernel_rfl
theorem z1r:tyS Tryz.prog 22=some (false,1):=by kernel_rfl
theorem Yb:tyS Tryz.prog 55=some (false,1):=by kernel_rfl
theorem qz:tyS Tryz.prog 57=some (true,3):=by kernel_rfl
theorem z1q:tyS Tryz.prog 71=some (false,1):=by kernel_rfl
theorem y0p:tyP Tryz.prog 25=some [(0,1),(1,1)]:=by kernel_rfl
theorem z6z:tyP Tryz.prog 57=some [(0,1),(1,1),(2,1)]:=by kernel_rfl
theorem y0o:tyP Tryz.prog 61=some [(0,1)]:=by kernel_rfl
theorem y0n:tyP Tryz.prog 81=some [(0,1),(1,1),(2,1)]:=by kernel_rfl
theorem z60:tyP Tryz.prog 102=some [(0,1),(1,1)]:=by kernel_rfl
theorem tyZ4:tyZ Tryz.prog 4=some [.bool false]:=by kernel_rfl
theorem y0m:tyZ Tryz.prog 25=some [.slice none 0 0,.int .i64 0]:=by kernel_rfl
theorem ki:tyZ Tryz.prog 57=some [.string ⟨#[]⟩,.slice none 0 0,.int .i64 0]:=by kernel_rfl
theorem y0l:tyZ Tryz.prog 61=some [.string ⟨#[]⟩]:=by kernel_rfl
theorem y0k:tyZ Tryz.prog 73=some [.pointer none,.slice none 0 0]:=by kernel_rfl
theorem y0j:tyZ Tryz.prog 81=some [.string ⟨#[]⟩,.int .i64 0,.bool false]:=by kernel_rfl
theorem z6w:tyZ Tryz.prog 102=some [.string ⟨#[]⟩,.string ⟨#[]⟩]:=by kernel_rfl
theorem z1w:tyF Tryz.prog 25 0=some (0,22):=by kernel_rfl
theorem Ws:tyF Tryz.prog 25 1=some (1,3):=by kernel_rfl
theorem Wr:tyF Tryz.prog 57 0=some (0,9):=by kernel_rfl
theorem Yc:tyF Tryz.prog 57 1=some (1,55):=by kernel_rfl
theorem z1v:tyF Tryz.prog 57 2=some (2,3):=by kernel_rfl
theorem yz:tyF Tryz.prog 61 0=some (0,9):=by kernel_rfl
theorem z1u:tyF Tryz.prog 73 1=some (1,71):=by kernel_rfl
theorem vn:tyF Tryz.prog 81 0=some (0,9):=by kernel_rfl
theorem qk:tyF Tryz.prog 81 1=some (1,3):=by kernel_rfl
theorem wq:tyF Tryz.prog 81 2=some (2,4):=by kernel_rfl
theorem z63:tyE Tryz.prog 22=some (3,1):=by kernel_rfl
theorem y0q:Elem Tryz.prog 22 3 1 8:=Elem.mk (z := .int .i64 0) (by kernel_rfl) (by kernel_rfl) rfl (by decide)
theorem uw:tyE Tryz.prog 27=some (9,1):=by kernel_rfl
theorem wi:Elem Tryz.prog 27 9 1 16:=Elem.mk (z := .string ⟨#[]⟩) (by kernel_rfl) (by kernel_rfl) rfl (by decide)
theorem z33:tyE Tryz.prog 41=some (57,3):=by kernel_rfl
theorem z1t:Elem Tryz.prog 41 57 3 48:=Elem.mk (z := .agg #[.string ⟨#[]⟩,.slice none 0 0,.int .i64 0]) (by kernel_rfl) (by kernel_rfl) rfl (by decide)
theorem z1s:Elem Tryz.prog 55 102 2 32:=Elem.mk (z := .agg #[.string ⟨#[]⟩,.string ⟨#[]⟩]) (by kernel_rfl) (by kernel_rfl) rfl (by decide)
theorem z62:tyE Tryz.prog 71=some (5,1):=by kernel_rfl
theorem uv:Elem Tryz.prog 71 5 1 1:=Elem.mk (z := .int .u8 0) (by kernel_rfl) (by kernel_rfl) rfl (by decide)
theorem tyU2:Tryz.prog.underlying 2=some (.int .i64):=by kernel_rfl
theorem tyU3:Tryz.prog.underlying 3=some (.int .i64):=by kernel_rfl
theorem tyU4:Tryz.prog.underlying 4=some .bool:=by kernel_rfl
theorem tyU5:Tryz.prog.underlying 5=some (.int .u8):=by kernel_rfl
theorem tyU9:Tryz.prog.underlying 9=some .string:=by kernel_rfl
theorem z1p:Tryz.prog.underlying 21=some (.int .i32):=by kernel_rfl
theorem z1o:Tryz.prog.underlying 22=some (.slice 3):=by kernel_rfl
theorem jl:Tryz.prog.underlying 27=some (.slice 9):=by kernel_rfl
theorem ut:Tryz.prog.underlying 41=some (.slice 57):=by kernel_rfl
theorem z6x:Tryz.prog.underlying 55=some (.slice 102):=by kernel_rfl
theorem ur:Tryz.prog.underlying 71=some (.slice 5):=by kernel_rfl
theorem z6y:Tryz.prog.underlying 118=some (.int .u64):=by kernel_rfl
theorem uu:Tryz.prog.underlying 128=some (.int .u64):=by kernel_rfl
end Go.Proofs.YtfindajhhadihaaGreatDoor
