/- Facts on the types of the program: read off its tables. Printed by a program. -/
import Derived.Test.YtndabcepiekebaaGreatDoorRows
import Derived.Test.YtndabcepiekebaaGreatDoorMb
namespace Go.Proofs.YtndabcepiekebaaGreatDoor

theorem mixed:Tryz.prog.follows .mixedOrders=true:=by kernel_rfl
theorem tyS3:tyS Tryz.prog 3=some (false,1):=by kernel_rfl
theorem tyS4:tyS Tryz.prog 4=some (false,1):=by kernel_rfl
theorem tyS5:tyS Tryz.prog 5=some (false,1):=by kernel_rfl
theorem tyS9:tyS Tryz.prog 9=some (false,1):=by kernel_rfl
theorem w37:tyS Tryz.prog 22=some (false,1):=by kernel_rfl
theorem x67:tyS Tryz.prog 26=some (false,1):=by kernel_rfl
theorem w36:tyS Tryz.prog 27=some (false,1):=by kernel_rfl
theorem w35:tyS Tryz.prog 28=some (false,1):=by kernel_rfl
theorem x1t:tyS Tryz.prog 30=some (true,6):=by kernel_rfl
theorem w99:tyS Tryz.prog 33=some (false,1):=by kernel_rfl
theorem z85:tyS Tryz.prog 37=some (false,1):=by kernel_rfl
theorem z28:tyS Tryz.prog 39=some (true,8):=by kernel_rfl
theorem w0s:tyS Tryz.prog 58=some (true,3):=by kernel_rfl
theorem w34:tyS Tryz.prog 80=some (true,5):=by kernel_rfl
theorem y58:tyS Tryz.prog 123=some (true,5):=by kernel_rfl
theorem v0b:tyP Tryz.prog 25=some [(0,1),(1,1)]:=by kernel_rfl
theorem v0a:tyP Tryz.prog 30=some [(0,1),(1,1),(2,1),(3,1),(4,1),(5,1)]:=by kernel_rfl
theorem y4b:tyP Tryz.prog 39=some [(0,1),(1,1),(2,1),(3,1),(4,1),(5,1),(6,1),(7,1)]:=by kernel_rfl
theorem w8n:tyP Tryz.prog 58=some [(0,1),(1,1),(2,1)]:=by kernel_rfl
theorem w8m:tyP Tryz.prog 80=some [(0,1),(1,1),(2,1),(3,1),(4,1)]:=by kernel_rfl
theorem w53:tyP Tryz.prog 123=some [(0,1),(1,1),(2,1),(3,1),(4,1)]:=by kernel_rfl
theorem w8o:tyP Tryz.prog 225=some [(0,1),(1,1),(2,1),(3,1)]:=by kernel_rfl
theorem tyZ4:tyZ Tryz.prog 4=some [.bool false]:=by kernel_rfl
theorem tyZ9:tyZ Tryz.prog 9=some [.string ⟨#[]⟩]:=by kernel_rfl
theorem w97:tyZ Tryz.prog 25=some [.slice none 0 0,.int .i64 0]:=by kernel_rfl
theorem w30:tyZ Tryz.prog 30=some [.string ⟨#[]⟩,.string ⟨#[]⟩,.slice none 0 0,.slice none 0 0,.slice none 0 0,.int .i64 0]:=by kernel_rfl
theorem w8k:tyZ Tryz.prog 37=some [.slice none 0 0]:=by kernel_rfl
theorem y0q:tyZ Tryz.prog 39=some [.string ⟨#[]⟩,.string ⟨#[]⟩,.string ⟨#[]⟩,.string ⟨#[]⟩,.slice none 0 0,.slice none 0 0,.int .i64 0,.int .i64 0]:=by kernel_rfl
theorem w3z:tyZ Tryz.prog 58=some [.string ⟨#[]⟩,.int .i64 0,.int .i64 0]:=by kernel_rfl
theorem w3y:tyZ Tryz.prog 80=some [.string ⟨#[]⟩,.string ⟨#[]⟩,.slice none 0 0,.int .i64 0,.int .i64 0]:=by kernel_rfl
theorem w8j:tyZ Tryz.prog 98=some [.string ⟨#[]⟩,.string ⟨#[]⟩,.string ⟨#[]⟩,.string ⟨#[]⟩]:=by kernel_rfl
theorem x0w:tyZ Tryz.prog 123=some [.string ⟨#[]⟩,.string ⟨#[]⟩,.int .i64 0,.int .i64 0,.int .i64 0]:=by kernel_rfl
theorem w8l:tyZ Tryz.prog 225=some [.slice none 0 0,.bool false,.int .i64 0,.bool false]:=by kernel_rfl
theorem x4r:tyF Tryz.prog 25 0=some (0,22):=by kernel_rfl
theorem x1x:tyF Tryz.prog 25 1=some (1,3):=by kernel_rfl
theorem x1w:tyF Tryz.prog 30 0=some (0,9):=by kernel_rfl
theorem x1v:tyF Tryz.prog 30 1=some (1,9):=by kernel_rfl
theorem x1u:tyF Tryz.prog 30 2=some (2,26):=by kernel_rfl
theorem x4q:tyF Tryz.prog 30 3=some (3,27):=by kernel_rfl
theorem x4p:tyF Tryz.prog 30 4=some (4,28):=by kernel_rfl
theorem y85:tyF Tryz.prog 30 5=some (5,3):=by kernel_rfl
theorem y7j:tyF Tryz.prog 39 0=some (0,9):=by kernel_rfl
theorem y84:tyF Tryz.prog 39 1=some (1,9):=by kernel_rfl
theorem y7i:tyF Tryz.prog 39 2=some (2,9):=by kernel_rfl
theorem y5p:tyF Tryz.prog 39 3=some (3,9):=by kernel_rfl
theorem y4c:tyF Tryz.prog 39 4=some (4,37):=by kernel_rfl
theorem y5o:tyF Tryz.prog 39 5=some (5,37):=by kernel_rfl
theorem y5n:tyF Tryz.prog 39 6=some (6,3):=by kernel_rfl
theorem y41:tyF Tryz.prog 39 7=some (7,3):=by kernel_rfl
theorem y6r:tyF Tryz.prog 58 0=some (0,9):=by kernel_rfl
theorem x4o:tyF Tryz.prog 58 1=some (1,3):=by kernel_rfl
theorem x4n:tyF Tryz.prog 58 2=some (2,3):=by kernel_rfl
theorem y73:tyF Tryz.prog 80 0=some (0,9):=by kernel_rfl
theorem y83:tyF Tryz.prog 80 1=some (1,9):=by kernel_rfl
theorem w0u:tyF Tryz.prog 80 2=some (2,37):=by kernel_rfl
theorem w0t:tyF Tryz.prog 80 3=some (3,3):=by kernel_rfl
theorem x4m:tyF Tryz.prog 80 4=some (4,3):=by kernel_rfl
theorem y5b:tyF Tryz.prog 123 0=some (0,9):=by kernel_rfl
theorem y8h:tyF Tryz.prog 123 1=some (1,9):=by kernel_rfl
theorem y5a:tyF Tryz.prog 123 2=some (2,3):=by kernel_rfl
theorem y6k:tyF Tryz.prog 123 3=some (3,3):=by kernel_rfl
theorem y6j:tyF Tryz.prog 123 4=some (4,3):=by kernel_rfl
theorem y9q:tyF Tryz.prog 225 0=some (0,37):=by kernel_rfl
theorem x8e:tyF Tryz.prog 225 1=some (1,4):=by kernel_rfl
theorem y4i:tyF Tryz.prog 225 2=some (2,3):=by kernel_rfl
theorem y6i:tyF Tryz.prog 225 3=some (3,4):=by kernel_rfl
theorem w8r:tyE Tryz.prog 22=some (3,1):=by kernel_rfl
theorem y9p:Elem Tryz.prog 22 3 1 8:=Elem.mk (z := .int .i64 0) (by kernel_rfl) (by kernel_rfl) rfl (by decide)
theorem y86:tyE Tryz.prog 26=some (123,5):=by kernel_rfl
theorem w8p:Elem Tryz.prog 26 123 5 56:=Elem.mk (z := .agg #[.string ⟨#[]⟩,.string ⟨#[]⟩,.int .i64 0,.int .i64 0,.int .i64 0]) (by kernel_rfl) (by kernel_rfl) rfl (by decide)
theorem w4a:tyE Tryz.prog 27=some (58,3):=by kernel_rfl
theorem w39:Elem Tryz.prog 27 58 3 32:=Elem.mk (z := .agg #[.string ⟨#[]⟩,.int .i64 0,.int .i64 0]) (by kernel_rfl) (by kernel_rfl) rfl (by decide)
theorem x68:tyE Tryz.prog 28=some (80,5):=by kernel_rfl
theorem w38:Elem Tryz.prog 28 80 5 72:=Elem.mk (z := .agg #[.string ⟨#[]⟩,.string ⟨#[]⟩,.slice none 0 0,.int .i64 0,.int .i64 0]) (by kernel_rfl) (by kernel_rfl) rfl (by decide)
theorem z9i:tyE Tryz.prog 37=some (9,1):=by kernel_rfl
theorem z86:Elem Tryz.prog 37 9 1 16:=Elem.mk (z := .string ⟨#[]⟩) (by kernel_rfl) (by kernel_rfl) rfl (by decide)
theorem v0f:tyE Tryz.prog 76=some (33,1):=by kernel_rfl
theorem v0d:Elem Tryz.prog 76 33 1 8:=Elem.mk (z := .int .i64 0) (by kernel_rfl) (by kernel_rfl) rfl (by decide)
theorem v0e:tyE Tryz.prog 90=some (37,1):=by kernel_rfl
theorem v0c:Elem Tryz.prog 90 37 1 24:=Elem.mk (z := .slice none 0 0) (by kernel_rfl) (by kernel_rfl) rfl (by decide)
theorem w54:tyE Tryz.prog 151=some (5,1):=by kernel_rfl
theorem x3r:Elem Tryz.prog 151 5 1 1:=Elem.mk (z := .int .u8 0) (by kernel_rfl) (by kernel_rfl) rfl (by decide)
theorem tyU2:Tryz.prog.underlying 2=some (.int .i64):=by kernel_rfl
theorem tyU3:Tryz.prog.underlying 3=some (.int .i64):=by kernel_rfl
theorem tyU5:Tryz.prog.underlying 5=some (.int .u8):=by kernel_rfl
theorem tyU9:Tryz.prog.underlying 9=some .string:=by kernel_rfl
theorem w33:Tryz.prog.underlying 21=some (.int .i32):=by kernel_rfl
theorem w32:Tryz.prog.underlying 22=some (.slice 3):=by kernel_rfl
theorem x5w:Tryz.prog.underlying 26=some (.slice 123):=by kernel_rfl
theorem w0r:Tryz.prog.underlying 27=some (.slice 58):=by kernel_rfl
theorem w31:Tryz.prog.underlying 28=some (.slice 80):=by kernel_rfl
theorem z9p:Tryz.prog.underlying 37=some (.slice 9):=by kernel_rfl
theorem w98:Tryz.prog.underlying 76=some (.slice 33):=by kernel_rfl
theorem y7x:Tryz.prog.underlying 140=some (.int .u64):=by kernel_rfl
theorem x5x:Tryz.prog.underlying 142=some (.int .u64):=by kernel_rfl
theorem y8x:Tryz.prog.underlying 151=some (.slice 5):=by kernel_rfl
end Go.Proofs.YtndabcepiekebaaGreatDoor
