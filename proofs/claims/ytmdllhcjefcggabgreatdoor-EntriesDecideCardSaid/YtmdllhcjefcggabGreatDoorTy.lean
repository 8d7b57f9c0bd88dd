/- Facts on the types of the program: read off its tables. Printed by a program. -/
import Derived.Test.YtmdllhcjefcggabGreatDoorRows
import Derived.Test.YtmdllhcjefcggabGreatDoorMb
namespace Go.Proofs.YtmdllhcjefcggabGreatDoor

theorem mixed:Tryz.prog.follows .mixedOrders=true:=by kernel_rfl
theorem tyS3:tyS Tryz.prog 3=some (false,1):=by kernel_rfl
theorem tyS4:tyS Tryz.prog 4=some (false,1):=by kernel_rfl
theorem tyS5:tyS Tryz.prog 5=some (false,1):=by kernel_rfl
theorem tyS9:tyS Tryz.prog 9=some (false,1):=by kernel_rfl
theorem y0j:tyS Tryz.prog 22=some (false,1):=by kernel_rfl
theorem wb:tyS Tryz.prog 26=some (false,1):=by kernel_rfl
theorem yy:tyS Tryz.prog 28=some (true,8):=by kernel_rfl
theorem ur:tyS Tryz.prog 30=some (true,3):=by kernel_rfl
theorem jp:tyS Tryz.prog 31=some (false,1):=by kernel_rfl
theorem uq:tyS Tryz.prog 33=some (true,14):=by kernel_rfl
theorem jv:tyS Tryz.prog 40=some (true,2):=by kernel_rfl
theorem y8h:tyS Tryz.prog 45=some (false,1):=by kernel_rfl
theorem vy:tyS Tryz.prog 61=some (true,12):=by kernel_rfl
theorem z26:tyS Tryz.prog 90=some (false,1):=by kernel_rfl
theorem y8i:tyS Tryz.prog 112=some (false,1):=by kernel_rfl
theorem y0l:tyS Tryz.prog 119=some (false,1):=by kernel_rfl
theorem jx:tyS Tryz.prog 137=some (true,2):=by kernel_rfl
theorem y0k:tyS Tryz.prog 196=some (true,2):=by kernel_rfl
theorem x55:tyP Tryz.prog 25=some [(0,1),(1,1)]:=by kernel_rfl
theorem Yk:tyP Tryz.prog 28=some [(0,1),(1,1),(2,1),(3,1),(4,1),(5,1),(6,1),(7,1)]:=by kernel_rfl
theorem y8k:tyP Tryz.prog 30=some [(0,1),(1,1),(2,1)]:=by kernel_rfl
theorem x54:tyP Tryz.prog 33=some [(0,8),(8,3),(11,1),(12,1),(13,1)]:=by kernel_rfl
theorem Qs:tyP Tryz.prog 40=some [(0,1),(1,1)]:=by kernel_rfl
theorem z65:tyP Tryz.prog 61=some [(0,1),(1,1),(2,1),(3,1),(4,1),(5,1),(6,1),(7,1),(8,1),(9,1),(10,1),(11,1)]:=by kernel_rfl
theorem y0m:tyP Tryz.prog 137=some [(0,1),(1,1)]:=by kernel_rfl
theorem y8l:tyP Tryz.prog 196=some [(0,1),(1,1)]:=by kernel_rfl
theorem tyZ3:tyZ Tryz.prog 3=some [.int .i64 0]:=by kernel_rfl
theorem x52:tyZ Tryz.prog 25=some [.slice none 0 0,.int .i64 0]:=by kernel_rfl
theorem jh:tyZ Tryz.prog 28=some [.int .i64 0,.string ⟨#[]⟩,.string ⟨#[]⟩,.string ⟨#[]⟩,.string ⟨#[]⟩,.string ⟨#[]⟩,.slice none 0 0,.string ⟨#[]⟩]:=by kernel_rfl
theorem y0f:tyZ Tryz.prog 30=some [.int .i64 0,.slice none 0 0,.string ⟨#[]⟩]:=by kernel_rfl
theorem y8c:tyZ Tryz.prog 31=some [.slice none 0 0]:=by kernel_rfl
theorem y0e:tyZ Tryz.prog 33=some [.int .i64 0,.string ⟨#[]⟩,.string ⟨#[]⟩,.string ⟨#[]⟩,.string ⟨#[]⟩,.string ⟨#[]⟩,.slice none 0 0,.string ⟨#[]⟩,.int .i64 0,.slice none 0 0,.string ⟨#[]⟩,.int .i64 0,.slice none 0 0,.int .i64 0]:=by kernel_rfl
theorem kl:tyZ Tryz.prog 40=some [.string ⟨#[]⟩,.string ⟨#[]⟩]:=by kernel_rfl
theorem ue:tyZ Tryz.prog 61=some [.bool false,.bool false,.bool false,.bool false,.bool false,.bool false,.int .i64 0,.int .i64 0,.int .i64 0,.int .i64 0,.int .i64 0,.int .i64 0]:=by kernel_rfl
theorem y4b:tyZ Tryz.prog 121=some [.pointer none,.slice none 0 0]:=by kernel_rfl
theorem Qq:tyZ Tryz.prog 137=some [.string ⟨#[]⟩,.string ⟨#[]⟩]:=by kernel_rfl
theorem y0g:tyZ Tryz.prog 196=some [.int .u8 0,.bool false]:=by kernel_rfl
theorem y0s:tyF Tryz.prog 25 0=some (0,22):=by kernel_rfl
theorem z68:tyF Tryz.prog 25 1=some (1,3):=by kernel_rfl
theorem Ym:tyF Tryz.prog 28 0=some (0,3):=by kernel_rfl
theorem uf:tyF Tryz.prog 28 1=some (1,9):=by kernel_rfl
theorem xx:tyF Tryz.prog 28 2=some (2,9):=by kernel_rfl
theorem xw:tyF Tryz.prog 28 3=some (3,9):=by kernel_rfl
theorem xv:tyF Tryz.prog 28 4=some (4,9):=by kernel_rfl
theorem y8x:tyF Tryz.prog 28 5=some (5,9):=by kernel_rfl
theorem vi:tyF Tryz.prog 28 6=some (6,26):=by kernel_rfl
theorem y8w:tyF Tryz.prog 28 7=some (7,9):=by kernel_rfl
theorem y4c:tyF Tryz.prog 30 0=some (0,3):=by kernel_rfl
theorem xu:tyF Tryz.prog 30 1=some (1,26):=by kernel_rfl
theorem y8v:tyF Tryz.prog 30 2=some (2,9):=by kernel_rfl
theorem z29:tyF Tryz.prog 33 0=some (0,28):=by kernel_rfl
theorem Zm:tyF Tryz.prog 33 1=some (8,30):=by kernel_rfl
theorem Yl:tyF Tryz.prog 33 2=some (11,3):=by kernel_rfl
theorem z0o:tyF Tryz.prog 33 3=some (12,31):=by kernel_rfl
theorem y0r:tyF Tryz.prog 33 4=some (13,3):=by kernel_rfl
theorem Qv:tyF Tryz.prog 40 0=some (0,9):=by kernel_rfl
theorem z67:tyF Tryz.prog 40 1=some (1,9):=by kernel_rfl
theorem y8u:tyF Tryz.prog 61 0=some (0,4):=by kernel_rfl
theorem Qu:tyF Tryz.prog 61 1=some (1,4):=by kernel_rfl
theorem y8t:tyF Tryz.prog 61 2=some (2,4):=by kernel_rfl
theorem y8s:tyF Tryz.prog 61 3=some (3,4):=by kernel_rfl
theorem y0q:tyF Tryz.prog 61 4=some (4,4):=by kernel_rfl
theorem y8r:tyF Tryz.prog 61 5=some (5,4):=by kernel_rfl
theorem Zl:tyF Tryz.prog 61 6=some (6,3):=by kernel_rfl
theorem z28:tyF Tryz.prog 61 7=some (7,3):=by kernel_rfl
theorem z27:tyF Tryz.prog 61 8=some (8,3):=by kernel_rfl
theorem y8q:tyF Tryz.prog 61 9=some (9,3):=by kernel_rfl
theorem z66:tyF Tryz.prog 61 10=some (10,3):=by kernel_rfl
theorem Qt:tyF Tryz.prog 61 11=some (11,3):=by kernel_rfl
theorem y0t:tyF Tryz.prog 121 1=some (1,119):=by kernel_rfl
theorem xf:tyF Tryz.prog 137 0=some (0,9):=by kernel_rfl
theorem Qw:tyF Tryz.prog 137 1=some (1,9):=by kernel_rfl
theorem z69:tyF Tryz.prog 196 0=some (0,5):=by kernel_rfl
theorem x57:tyF Tryz.prog 196 1=some (1,4):=by kernel_rfl
theorem y80:tyE Tryz.prog 22=some (3,1):=by kernel_rfl
theorem y0n:Elem Tryz.prog 22 3 1 8:=Elem.mk (z := .int .i64 0) (by kernel_rfl) (by kernel_rfl) rfl (by decide)
theorem xg:tyE Tryz.prog 26=some (40,2):=by kernel_rfl
theorem kg:Elem Tryz.prog 26 40 2 32:=Elem.mk (z := .agg #[.string ⟨#[]⟩,.string ⟨#[]⟩]) (by kernel_rfl) (by kernel_rfl) rfl (by decide)
theorem vj:tyE Tryz.prog 31=some (9,1):=by kernel_rfl
theorem yu:Elem Tryz.prog 31 9 1 16:=Elem.mk (z := .string ⟨#[]⟩) (by kernel_rfl) (by kernel_rfl) rfl (by decide)
theorem y8z:tyE Tryz.prog 55=some (31,1):=by kernel_rfl
theorem y8o:Elem Tryz.prog 55 31 1 24:=Elem.mk (z := .slice none 0 0) (by kernel_rfl) (by kernel_rfl) rfl (by decide)
theorem y8y:tyE Tryz.prog 69=some (45,1):=by kernel_rfl
theorem y8n:Elem Tryz.prog 69 45 1 8:=Elem.mk (z := .int .i64 0) (by kernel_rfl) (by kernel_rfl) rfl (by decide)
theorem z3a:tyE Tryz.prog 86=some (90,1):=by kernel_rfl
theorem y8m:Elem Tryz.prog 86 90 1 8:=Elem.mk (z := .pointer none) (by kernel_rfl) (by kernel_rfl) rfl (by decide)
theorem y83:tyE Tryz.prog 113=some (112,1):=by kernel_rfl
theorem y8p:Elem Tryz.prog 113 112 1 8:=Elem.mk (z := .pointer none) (by kernel_rfl) (by kernel_rfl) rfl (by decide)
theorem y82:tyE Tryz.prog 119=some (5,1):=by kernel_rfl
theorem Zk:Elem Tryz.prog 119 5 1 1:=Elem.mk (z := .int .u8 0) (by kernel_rfl) (by kernel_rfl) rfl (by decide)
theorem ut:tyE Tryz.prog 133=some (137,2):=by kernel_rfl
theorem y0p:Elem Tryz.prog 133 137 2 32:=Elem.mk (z := .agg #[.string ⟨#[]⟩,.string ⟨#[]⟩]) (by kernel_rfl) (by kernel_rfl) rfl (by decide)
theorem y81:tyE Tryz.prog 192=some (196,2):=by kernel_rfl
theorem y0o:Elem Tryz.prog 192 196 2 2:=Elem.mk (z := .agg #[.int .u8 0,.bool false]) (by kernel_rfl) (by kernel_rfl) rfl (by decide)
theorem tyU2:Tryz.prog.underlying 2=some (.int .i64):=by kernel_rfl
theorem tyU3:Tryz.prog.underlying 3=some (.int .i64):=by kernel_rfl
theorem tyU5:Tryz.prog.underlying 5=some (.int .u8):=by kernel_rfl
theorem tyU9:Tryz.prog.underlying 9=some .string:=by kernel_rfl
theorem z25:Tryz.prog.underlying 21=some (.int .i32):=by kernel_rfl
theorem y0h:Tryz.prog.underlying 22=some (.slice 3):=by kernel_rfl
theorem uo:Tryz.prog.underlying 26=some (.slice 40):=by kernel_rfl
theorem wq:Tryz.prog.underlying 31=some (.slice 9):=by kernel_rfl
theorem y8e:Tryz.prog.underlying 69=some (.slice 45):=by kernel_rfl
theorem y8d:Tryz.prog.underlying 86=some (.slice 90):=by kernel_rfl
theorem y0i:Tryz.prog.underlying 115=some (.int .u64):=by kernel_rfl
theorem Qr:Tryz.prog.underlying 119=some (.slice 5):=by kernel_rfl
theorem xt:Tryz.prog.underlying 133=some (.slice 137):=by kernel_rfl
theorem y8g:Tryz.prog.underlying 160=some (.int .u32):=by kernel_rfl
theorem Yj:Tryz.prog.underlying 163=some (.int .u64):=by kernel_rfl
theorem y8f:Tryz.prog.underlying 192=some (.slice 196):=by kernel_rfl
theorem y8j:tyQ Tryz.prog 137=some [.string,.string]:=by kernel_rfl
end Go.Proofs.YtmdllhcjefcggabGreatDoor
