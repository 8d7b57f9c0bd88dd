/- Facts on the types of the program: read off its tables. Printed by a program. -/
import Derived.Test.YtbndlmnjeofkdaaGreatDoorRows
import Derived.Test.YtbndlmnjeofkdaaGreatDoorMb
namespace Go.Proofs.YtbndlmnjeofkdaaGreatDoor

theorem mixed:Tryz.prog.follows .mixedOrders=true:=by kernel_rfl
theorem tyS3:tyS Tryz.prog 3=some (false,1):=by kernel_rfl
theorem tyS4:tyS Tryz.prog 4=some (false,1):=by kernel_rfl
theorem tyS5:tyS Tryz.prog 5=some (false,1):=by kernel_rfl
theorem tyS9:tyS Tryz.prog 9=some (false,1):=by kernel_rfl
theorem z8n:tyS Tryz.prog 22=some (false,1):=by kernel_rfl
theorem vk:tyS Tryz.prog 26=some (false,1):=by kernel_rfl
theorem ql:tyS Tryz.prog 28=some (true,8):=by kernel_rfl
theorem x4k:tyS Tryz.prog 30=some (false,1):=by kernel_rfl
theorem jz:tyS Tryz.prog 35=some (true,3):=by kernel_rfl
theorem Zc:tyS Tryz.prog 36=some (false,1):=by kernel_rfl
theorem jn:tyS Tryz.prog 38=some (true,14):=by kernel_rfl
theorem uu:tyS Tryz.prog 49=some (true,2):=by kernel_rfl
theorem jr:tyS Tryz.prog 58=some (true,2):=by kernel_rfl
theorem z1z:tyS Tryz.prog 68=some (true,2):=by kernel_rfl
theorem z8m:tyS Tryz.prog 99=some (false,1):=by kernel_rfl
theorem Yh:tyS Tryz.prog 114=some (true,12):=by kernel_rfl
theorem z8o:tyS Tryz.prog 160=some (false,1):=by kernel_rfl
theorem x4l:tyS Tryz.prog 198=some (false,1):=by kernel_rfl
theorem x4o:tyP Tryz.prog 25=some [(0,1),(1,1)]:=by kernel_rfl
theorem z11:tyP Tryz.prog 28=some [(0,1),(1,1),(2,1),(3,1),(4,1),(5,1),(6,1),(7,1)]:=by kernel_rfl
theorem y16:tyP Tryz.prog 35=some [(0,1),(1,1),(2,1)]:=by kernel_rfl
theorem y6u:tyP Tryz.prog 38=some [(0,8),(8,3),(11,1),(12,1),(13,1)]:=by kernel_rfl
theorem z10:tyP Tryz.prog 49=some [(0,1),(1,1)]:=by kernel_rfl
theorem y15:tyP Tryz.prog 58=some [(0,1),(1,1)]:=by kernel_rfl
theorem x4n:tyP Tryz.prog 68=some [(0,1),(1,1)]:=by kernel_rfl
theorem y6v:tyP Tryz.prog 114=some [(0,1),(1,1),(2,1),(3,1),(4,1),(5,1),(6,1),(7,1),(8,1),(9,1),(10,1),(11,1)]:=by kernel_rfl
theorem tyZ3:tyZ Tryz.prog 3=some [.int .i64 0]:=by kernel_rfl
theorem x4h:tyZ Tryz.prog 25=some [.slice none 0 0,.int .i64 0]:=by kernel_rfl
theorem jy:tyZ Tryz.prog 28=some [.int .i64 0,.string ⟨#[]⟩,.string ⟨#[]⟩,.string ⟨#[]⟩,.string ⟨#[]⟩,.string ⟨#[]⟩,.slice none 0 0,.string ⟨#[]⟩]:=by kernel_rfl
theorem z5a:tyZ Tryz.prog 35=some [.int .i64 0,.slice none 0 0,.string ⟨#[]⟩]:=by kernel_rfl
theorem Qo:tyZ Tryz.prog 38=some [.int .i64 0,.string ⟨#[]⟩,.string ⟨#[]⟩,.string ⟨#[]⟩,.string ⟨#[]⟩,.string ⟨#[]⟩,.slice none 0 0,.string ⟨#[]⟩,.int .i64 0,.slice none 0 0,.string ⟨#[]⟩,.int .i64 0,.slice none 0 0,.int .i64 0]:=by kernel_rfl
theorem ut:tyZ Tryz.prog 49=some [.string ⟨#[]⟩,.string ⟨#[]⟩]:=by kernel_rfl
theorem z1w:tyZ Tryz.prog 58=some [.string ⟨#[]⟩,.string ⟨#[]⟩]:=by kernel_rfl
theorem z8i:tyZ Tryz.prog 68=some [.string ⟨#[]⟩,.int .i64 0]:=by kernel_rfl
theorem y14:tyZ Tryz.prog 101=some [.pointer none,.slice none 0 0]:=by kernel_rfl
theorem z5b:tyZ Tryz.prog 114=some [.bool false,.bool false,.bool false,.bool false,.bool false,.bool false,.int .i64 0,.int .i64 0,.int .i64 0,.int .i64 0,.int .i64 0,.int .i64 0]:=by kernel_rfl
theorem z8u:tyF Tryz.prog 25 0=some (0,22):=by kernel_rfl
theorem z5e:tyF Tryz.prog 25 1=some (1,3):=by kernel_rfl
theorem y2a:tyF Tryz.prog 28 0=some (0,3):=by kernel_rfl
theorem Yi:tyF Tryz.prog 28 1=some (1,9):=by kernel_rfl
theorem Qu:tyF Tryz.prog 28 2=some (2,9):=by kernel_rfl
theorem Qt:tyF Tryz.prog 28 3=some (3,9):=by kernel_rfl
theorem Qs:tyF Tryz.prog 28 4=some (4,9):=by kernel_rfl
theorem y60:tyF Tryz.prog 28 5=some (5,9):=by kernel_rfl
theorem js:tyF Tryz.prog 28 6=some (6,26):=by kernel_rfl
theorem y6z:tyF Tryz.prog 28 7=some (7,9):=by kernel_rfl
theorem y19:tyF Tryz.prog 35 0=some (0,3):=by kernel_rfl
theorem Qr:tyF Tryz.prog 35 1=some (1,26):=by kernel_rfl
theorem y6y:tyF Tryz.prog 35 2=some (2,9):=by kernel_rfl
theorem z14:tyF Tryz.prog 38 0=some (0,28):=by kernel_rfl
theorem z13:tyF Tryz.prog 38 1=some (8,35):=by kernel_rfl
theorem z8t:tyF Tryz.prog 38 2=some (11,3):=by kernel_rfl
theorem Qq:tyF Tryz.prog 38 3=some (12,36):=by kernel_rfl
theorem z8s:tyF Tryz.prog 38 4=some (13,3):=by kernel_rfl
theorem z12:tyF Tryz.prog 49 0=some (0,9):=by kernel_rfl
theorem z8r:tyF Tryz.prog 49 1=some (1,9):=by kernel_rfl
theorem z5d:tyF Tryz.prog 58 0=some (0,9):=by kernel_rfl
theorem y18:tyF Tryz.prog 58 1=some (1,9):=by kernel_rfl
theorem z8q:tyF Tryz.prog 68 0=some (0,9):=by kernel_rfl
theorem y17:tyF Tryz.prog 68 1=some (1,3):=by kernel_rfl
theorem z8v:tyF Tryz.prog 101 1=some (1,99):=by kernel_rfl
theorem x42:tyF Tryz.prog 114 0=some (0,4):=by kernel_rfl
theorem y61:tyF Tryz.prog 114 1=some (1,4):=by kernel_rfl
theorem x4z:tyF Tryz.prog 114 2=some (2,4):=by kernel_rfl
theorem x4y:tyF Tryz.prog 114 3=some (3,4):=by kernel_rfl
theorem x4x:tyF Tryz.prog 114 4=some (4,4):=by kernel_rfl
theorem x4w:tyF Tryz.prog 114 5=some (5,4):=by kernel_rfl
theorem y2c:tyF Tryz.prog 114 6=some (6,3):=by kernel_rfl
theorem y2b:tyF Tryz.prog 114 7=some (7,3):=by kernel_rfl
theorem x4v:tyF Tryz.prog 114 8=some (8,3):=by kernel_rfl
theorem x4u:tyF Tryz.prog 114 9=some (9,3):=by kernel_rfl
theorem x41:tyF Tryz.prog 114 10=some (10,3):=by kernel_rfl
theorem x40:tyF Tryz.prog 114 11=some (11,3):=by kernel_rfl
theorem Yj:tyE Tryz.prog 22=some (3,1):=by kernel_rfl
theorem z8p:Elem Tryz.prog 22 3 1 8:=Elem.mk (z := .int .i64 0) (by kernel_rfl) (by kernel_rfl) rfl (by decide)
theorem z15:tyE Tryz.prog 26=some (49,2):=by kernel_rfl
theorem kv:Elem Tryz.prog 26 49 2 32:=Elem.mk (z := .agg #[.string ⟨#[]⟩,.string ⟨#[]⟩]) (by kernel_rfl) (by kernel_rfl) rfl (by decide)
theorem vm:tyE Tryz.prog 36=some (9,1):=by kernel_rfl
theorem yq:Elem Tryz.prog 36 9 1 16:=Elem.mk (z := .string ⟨#[]⟩) (by kernel_rfl) (by kernel_rfl) rfl (by decide)
theorem ue:tyE Tryz.prog 54=some (58,2):=by kernel_rfl
theorem y6w:Elem Tryz.prog 54 58 2 32:=Elem.mk (z := .agg #[.string ⟨#[]⟩,.string ⟨#[]⟩]) (by kernel_rfl) (by kernel_rfl) rfl (by decide)
theorem z5g:tyE Tryz.prog 69=some (68,2):=by kernel_rfl
theorem x4p:Elem Tryz.prog 69 68 2 24:=Elem.mk (z := .agg #[.string ⟨#[]⟩,.int .i64 0]) (by kernel_rfl) (by kernel_rfl) rfl (by decide)
theorem y62:tyE Tryz.prog 99=some (5,1):=by kernel_rfl
theorem z5c:Elem Tryz.prog 99 5 1 1:=Elem.mk (z := .int .u8 0) (by kernel_rfl) (by kernel_rfl) rfl (by decide)
theorem y63:tyE Tryz.prog 120=some (36,1):=by kernel_rfl
theorem y6x:Elem Tryz.prog 120 36 1 24:=Elem.mk (z := .slice none 0 0) (by kernel_rfl) (by kernel_rfl) rfl (by decide)
theorem x44:tyE Tryz.prog 121=some (30,1):=by kernel_rfl
theorem x4s:Elem Tryz.prog 121 30 1 8:=Elem.mk (z := .int .i64 0) (by kernel_rfl) (by kernel_rfl) rfl (by decide)
theorem z8w:tyE Tryz.prog 156=some (160,1):=by kernel_rfl
theorem x4r:Elem Tryz.prog 156 160 1 8:=Elem.mk (z := .pointer none) (by kernel_rfl) (by kernel_rfl) rfl (by decide)
theorem x43:tyE Tryz.prog 195=some (198,1):=by kernel_rfl
theorem x4q:Elem Tryz.prog 195 198 1 8:=Elem.mk (z := .pointer none) (by kernel_rfl) (by kernel_rfl) rfl (by decide)
theorem tyU2:Tryz.prog.underlying 2=some (.int .i64):=by kernel_rfl
theorem tyU3:Tryz.prog.underlying 3=some (.int .i64):=by kernel_rfl
theorem tyU4:Tryz.prog.underlying 4=some .bool:=by kernel_rfl
theorem tyU5:Tryz.prog.underlying 5=some (.int .u8):=by kernel_rfl
theorem tyU9:Tryz.prog.underlying 9=some .string:=by kernel_rfl
theorem z8l:Tryz.prog.underlying 21=some (.int .i32):=by kernel_rfl
theorem z8k:Tryz.prog.underlying 22=some (.slice 3):=by kernel_rfl
theorem Zb:Tryz.prog.underlying 26=some (.slice 49):=by kernel_rfl
theorem wm:Tryz.prog.underlying 36=some (.slice 9):=by kernel_rfl
theorem Qp:Tryz.prog.underlying 54=some (.slice 58):=by kernel_rfl
theorem z1y:Tryz.prog.underlying 69=some (.slice 68):=by kernel_rfl
theorem z8j:Tryz.prog.underlying 96=some (.int .u64):=by kernel_rfl
theorem z1x:Tryz.prog.underlying 99=some (.slice 5):=by kernel_rfl
theorem x4j:Tryz.prog.underlying 121=some (.slice 30):=by kernel_rfl
theorem y6s:Tryz.prog.underlying 147=some (.int .u32):=by kernel_rfl
theorem Yg:Tryz.prog.underlying 149=some (.int .u64):=by kernel_rfl
theorem x4i:Tryz.prog.underlying 156=some (.slice 160):=by kernel_rfl
theorem y6t:tyQ Tryz.prog 58=some [.string,.string]:=by kernel_rfl
end Go.Proofs.YtbndlmnjeofkdaaGreatDoor
