/- Facts on the types of the program: read off its tables. Printed by a program. -/
import Derived.Test.YticadaaoggpenaaGreatDoorRows
import Derived.Test.YticadaaoggpenaaGreatDoorMb
namespace Go.Proofs.YticadaaoggpenaaGreatDoor

theorem mixed:Tryz.prog.follows .mixedOrders=true:=by kernel_rfl
theorem tyS3:tyS Tryz.prog 3=some (false,1):=by kernel_rfl
theorem tyS4:tyS Tryz.prog 4=some (false,1):=by kernel_rfl
theorem tyS9:tyS Tryz.prog 9=some (false,1):=by kernel_rfl
theorem w2e:tyS Tryz.prog 22=some (false,1):=by kernel_rfl
theorem x1s:tyS Tryz.prog 26=some (false,1):=by kernel_rfl
theorem y4q:tyS Tryz.prog 27=some (false,1):=by kernel_rfl
theorem z5d:tyS Tryz.prog 29=some (true,2):=by kernel_rfl
theorem w74:tyS Tryz.prog 32=some (false,1):=by kernel_rfl
theorem z4h:tyS Tryz.prog 39=some (true,4):=by kernel_rfl
theorem x3o:tyS Tryz.prog 44=some (false,1):=by kernel_rfl
theorem w2d:tyS Tryz.prog 71=some (false,1):=by kernel_rfl
theorem w60:tyS Tryz.prog 72=some (false,1):=by kernel_rfl
theorem x80:tyS Tryz.prog 76=some (true,2):=by kernel_rfl
theorem y9f:tyS Tryz.prog 81=some (true,2):=by kernel_rfl
theorem x4y:tyS Tryz.prog 86=some (true,2):=by kernel_rfl
theorem w6z:tyS Tryz.prog 91=some (false,1):=by kernel_rfl
theorem y1o:tyS Tryz.prog 99=some (true,5):=by kernel_rfl
theorem x03:tyS Tryz.prog 102=some (true,2):=by kernel_rfl
theorem y39:tyS Tryz.prog 103=some (false,1):=by kernel_rfl
theorem y1j:tyS Tryz.prog 105=some (true,8):=by kernel_rfl
theorem w78:tyP Tryz.prog 25=some [(0,1),(1,1)]:=by kernel_rfl
theorem w43:tyP Tryz.prog 29=some [(0,1),(1,1)]:=by kernel_rfl
theorem x7r:tyP Tryz.prog 39=some [(0,1),(1,1),(2,1),(3,1)]:=by kernel_rfl
theorem w77:tyP Tryz.prog 74=some [(0,1),(1,1)]:=by kernel_rfl
theorem w42:tyP Tryz.prog 76=some [(0,1),(1,1)]:=by kernel_rfl
theorem x7q:tyP Tryz.prog 81=some [(0,1),(1,1)]:=by kernel_rfl
theorem w2f:tyP Tryz.prog 86=some [(0,1),(1,1)]:=by kernel_rfl
theorem w76:tyP Tryz.prog 99=some [(0,1),(1,1),(2,1),(3,1),(4,1)]:=by kernel_rfl
theorem x55:tyP Tryz.prog 102=some [(0,1),(1,1)]:=by kernel_rfl
theorem x54:tyP Tryz.prog 105=some [(0,1),(1,1),(2,1),(3,1),(4,1),(5,1),(6,1),(7,1)]:=by kernel_rfl
theorem tyZ9:tyZ Tryz.prog 9=some [.string ⟨#[]⟩]:=by kernel_rfl
theorem w72:tyZ Tryz.prog 25=some [.slice none 0 0,.int .i64 0]:=by kernel_rfl
theorem y59:tyZ Tryz.prog 29=some [.slice none 0 0,.slice none 0 0]:=by kernel_rfl
theorem y3h:tyZ Tryz.prog 39=some [.int .i64 0,.string ⟨#[]⟩,.int .i64 0,.int .i64 0]:=by kernel_rfl
theorem w71:tyZ Tryz.prog 74=some [.map none,.map none]:=by kernel_rfl
theorem x8z:tyZ Tryz.prog 76=some [.string ⟨#[]⟩,.string ⟨#[]⟩]:=by kernel_rfl
theorem x0r:tyZ Tryz.prog 81=some [.string ⟨#[]⟩,.slice none 0 0]:=by kernel_rfl
theorem x7p:tyZ Tryz.prog 86=some [.string ⟨#[]⟩,.string ⟨#[]⟩]:=by kernel_rfl
theorem x1r:tyZ Tryz.prog 99=some [.int .i64 0,.string ⟨#[]⟩,.string ⟨#[]⟩,.int .i64 0,.string ⟨#[]⟩]:=by kernel_rfl
theorem y9d:tyZ Tryz.prog 102=some [.int .i64 0,.int .i64 0]:=by kernel_rfl
theorem y48:tyZ Tryz.prog 105=some [.string ⟨#[]⟩,.string ⟨#[]⟩,.int .i64 0,.int .i64 0,.slice none 0 0,.int .i64 0,.int .i64 0,.bool false]:=by kernel_rfl
theorem x1v:tyF Tryz.prog 25 0=some (0,22):=by kernel_rfl
theorem y9k:tyF Tryz.prog 25 1=some (1,3):=by kernel_rfl
theorem y5k:tyF Tryz.prog 29 0=some (0,26):=by kernel_rfl
theorem z9n:tyF Tryz.prog 29 1=some (1,27):=by kernel_rfl
theorem z8j:tyF Tryz.prog 39 0=some (0,3):=by kernel_rfl
theorem y9j:tyF Tryz.prog 39 1=some (1,9):=by kernel_rfl
theorem y9i:tyF Tryz.prog 39 2=some (2,3):=by kernel_rfl
theorem y9h:tyF Tryz.prog 39 3=some (3,3):=by kernel_rfl
theorem x1u:tyF Tryz.prog 74 0=some (0,71):=by kernel_rfl
theorem x85:tyF Tryz.prog 74 1=some (1,72):=by kernel_rfl
theorem y4z:tyF Tryz.prog 81 0=some (0,9):=by kernel_rfl
theorem x1t:tyF Tryz.prog 81 1=some (1,44):=by kernel_rfl
theorem y5j:tyF Tryz.prog 86 0=some (0,9):=by kernel_rfl
theorem x84:tyF Tryz.prog 86 1=some (1,9):=by kernel_rfl
theorem y0e:tyF Tryz.prog 99 0=some (0,3):=by kernel_rfl
theorem y2r:tyF Tryz.prog 99 1=some (1,9):=by kernel_rfl
theorem y13:tyF Tryz.prog 99 2=some (2,9):=by kernel_rfl
theorem z84:tyF Tryz.prog 99 3=some (3,3):=by kernel_rfl
theorem y27:tyF Tryz.prog 99 4=some (4,9):=by kernel_rfl
theorem y3d:tyF Tryz.prog 102 0=some (0,3):=by kernel_rfl
theorem x1z:tyF Tryz.prog 102 1=some (1,3):=by kernel_rfl
theorem y1k:tyF Tryz.prog 105 0=some (0,9):=by kernel_rfl
theorem y6o:tyF Tryz.prog 105 1=some (1,9):=by kernel_rfl
theorem x1y:tyF Tryz.prog 105 2=some (2,3):=by kernel_rfl
theorem y86:tyF Tryz.prog 105 3=some (3,3):=by kernel_rfl
theorem y0y:tyF Tryz.prog 105 4=some (4,103):=by kernel_rfl
theorem x1x:tyF Tryz.prog 105 5=some (5,3):=by kernel_rfl
theorem x1w:tyF Tryz.prog 105 6=some (6,3):=by kernel_rfl
theorem y85:tyF Tryz.prog 105 7=some (7,4):=by kernel_rfl
theorem x86:tyE Tryz.prog 22=some (3,1):=by kernel_rfl
theorem y1x:Elem Tryz.prog 22 3 1 8:=Elem.mk (z := .int .i64 0) (by kernel_rfl) (by kernel_rfl) rfl (by decide)
theorem x3q:tyE Tryz.prog 26=some (81,2):=by kernel_rfl
theorem x83:Elem Tryz.prog 26 81 2 40:=Elem.mk (z := .agg #[.string ⟨#[]⟩,.slice none 0 0]) (by kernel_rfl) (by kernel_rfl) rfl (by decide)
theorem y8u:tyE Tryz.prog 27=some (105,8):=by kernel_rfl
theorem x82:Elem Tryz.prog 27 105 8 96:=Elem.mk (z := .agg #[.string ⟨#[]⟩,.string ⟨#[]⟩,.int .i64 0,.int .i64 0,.slice none 0 0,.int .i64 0,.int .i64 0,.bool false]) (by kernel_rfl) (by kernel_rfl) rfl (by decide)
theorem x3p:tyE Tryz.prog 30=some (86,2):=by kernel_rfl
theorem w44:Elem Tryz.prog 30 86 2 32:=Elem.mk (z := .agg #[.string ⟨#[]⟩,.string ⟨#[]⟩]) (by kernel_rfl) (by kernel_rfl) rfl (by decide)
theorem y4a:tyE Tryz.prog 31=some (99,5):=by kernel_rfl
theorem w62:Elem Tryz.prog 31 99 5 64:=Elem.mk (z := .agg #[.int .i64 0,.string ⟨#[]⟩,.string ⟨#[]⟩,.int .i64 0,.string ⟨#[]⟩]) (by kernel_rfl) (by kernel_rfl) rfl (by decide)
theorem y5z:tyE Tryz.prog 44=some (9,1):=by kernel_rfl
theorem y06:Elem Tryz.prog 44 9 1 16:=Elem.mk (z := .string ⟨#[]⟩) (by kernel_rfl) (by kernel_rfl) rfl (by decide)
theorem w79:tyE Tryz.prog 83=some (32,1):=by kernel_rfl
theorem w2g:Elem Tryz.prog 83 32 1 8:=Elem.mk (z := .int .i64 0) (by kernel_rfl) (by kernel_rfl) rfl (by decide)
theorem w2h:tyE Tryz.prog 91=some (39,4):=by kernel_rfl
theorem x7s:Elem Tryz.prog 91 39 4 40:=Elem.mk (z := .agg #[.int .i64 0,.string ⟨#[]⟩,.int .i64 0,.int .i64 0]) (by kernel_rfl) (by kernel_rfl) rfl (by decide)
theorem y8p:tyE Tryz.prog 103=some (102,2):=by kernel_rfl
theorem y9g:Elem Tryz.prog 103 102 2 16:=Elem.mk (z := .agg #[.int .i64 0,.int .i64 0]) (by kernel_rfl) (by kernel_rfl) rfl (by decide)
theorem tyU3:Tryz.prog.underlying 3=some (.int .i64):=by kernel_rfl
theorem tyU9:Tryz.prog.underlying 9=some .string:=by kernel_rfl
theorem x3n:Tryz.prog.underlying 22=some (.slice 3):=by kernel_rfl
theorem x3m:Tryz.prog.underlying 26=some (.slice 81):=by kernel_rfl
theorem y9e:Tryz.prog.underlying 27=some (.slice 105):=by kernel_rfl
theorem x3l:Tryz.prog.underlying 30=some (.slice 86):=by kernel_rfl
theorem y75:Tryz.prog.underlying 31=some (.slice 99):=by kernel_rfl
theorem y2p:Tryz.prog.underlying 44=some (.slice 9):=by kernel_rfl
theorem w73:Tryz.prog.underlying 83=some (.slice 32):=by kernel_rfl
theorem w2c:Tryz.prog.underlying 91=some (.slice 39):=by kernel_rfl
theorem y8o:Tryz.prog.underlying 103=some (.slice 102):=by kernel_rfl
theorem x02:Tryz.prog.underlying 124=some (.int .u64):=by kernel_rfl
theorem w75:tyQ Tryz.prog 39=some [.int .i64,.string,.int .i64,.int .i64]:=by kernel_rfl
end Go.Proofs.YticadaaoggpenaaGreatDoor
