/- Facts on the types of the program: read off its tables. Printed by a program. -/
import Derived.Test.YthmmalklamiefaaGreatDoorRows
import Derived.Test.YthmmalklamiefaaGreatDoorMb
namespace Go.Proofs.YthmmalklamiefaaGreatDoor

theorem mixed:Tryz.prog.follows .mixedOrders=true:=by kernel_rfl
theorem tyS3:tyS Tryz.prog 3=some (false,1):=by kernel_rfl
theorem tyS4:tyS Tryz.prog 4=some (false,1):=by kernel_rfl
theorem tyS9:tyS Tryz.prog 9=some (false,1):=by kernel_rfl
theorem w3l:tyS Tryz.prog 22=some (false,1):=by kernel_rfl
theorem x6o:tyS Tryz.prog 26=some (false,1):=by kernel_rfl
theorem y57:tyS Tryz.prog 27=some (false,1):=by kernel_rfl
theorem z5x:tyS Tryz.prog 29=some (true,2):=by kernel_rfl
theorem w87:tyS Tryz.prog 32=some (false,1):=by kernel_rfl
theorem w7y:tyS Tryz.prog 36=some (false,1):=by kernel_rfl
theorem z6k:tyS Tryz.prog 51=some (true,4):=by kernel_rfl
theorem y0a:tyS Tryz.prog 57=some (true,4):=by kernel_rfl
theorem y81:tyS Tryz.prog 81=some (false,1):=by kernel_rfl
theorem y47:tyS Tryz.prog 83=some (true,8):=by kernel_rfl
theorem w55:tyS Tryz.prog 91=some (true,2):=by kernel_rfl
theorem y9l:tyS Tryz.prog 102=some (true,2):=by kernel_rfl
theorem w5d:tyS Tryz.prog 105=some (false,1):=by kernel_rfl
theorem x1p:tyS Tryz.prog 107=some (true,2):=by kernel_rfl
theorem w5c:tyS Tryz.prog 109=some (false,1):=by kernel_rfl
theorem x2y:tyS Tryz.prog 118=some (true,2):=by kernel_rfl
theorem z9s:tyS Tryz.prog 123=some (true,5):=by kernel_rfl
theorem w0q:tyS Tryz.prog 133=some (false,1):=by kernel_rfl
theorem w7z:tyS Tryz.prog 134=some (false,1):=by kernel_rfl
theorem w89:tyP Tryz.prog 25=some [(0,1),(1,1)]:=by kernel_rfl
theorem w57:tyP Tryz.prog 29=some [(0,1),(1,1)]:=by kernel_rfl
theorem w3o:tyP Tryz.prog 51=some [(0,1),(1,1),(2,1),(3,1)]:=by kernel_rfl
theorem w56:tyP Tryz.prog 57=some [(0,1),(1,1),(2,1),(3,1)]:=by kernel_rfl
theorem w3n:tyP Tryz.prog 83=some [(0,1),(1,1),(2,1),(3,1),(4,1),(5,1),(6,1),(7,1)]:=by kernel_rfl
theorem w3m:tyP Tryz.prog 91=some [(0,1),(1,1)]:=by kernel_rfl
theorem x71:tyP Tryz.prog 102=some [(0,1),(1,1)]:=by kernel_rfl
theorem x2z:tyP Tryz.prog 107=some [(0,1),(1,1)]:=by kernel_rfl
theorem x70:tyP Tryz.prog 118=some [(0,1),(1,1)]:=by kernel_rfl
theorem w72:tyP Tryz.prog 123=some [(0,1),(1,1),(2,1),(3,1),(4,1)]:=by kernel_rfl
theorem w71:tyP Tryz.prog 136=some [(0,1),(1,1)]:=by kernel_rfl
theorem tyZ9:tyZ Tryz.prog 9=some [.string ⟨#[]⟩]:=by kernel_rfl
theorem w85:tyZ Tryz.prog 25=some [.slice none 0 0,.int .i64 0]:=by kernel_rfl
theorem y72:tyZ Tryz.prog 29=some [.slice none 0 0,.slice none 0 0]:=by kernel_rfl
theorem y6x:tyZ Tryz.prog 51=some [.int .i64 0,.string ⟨#[]⟩,.int .i64 0,.int .i64 0]:=by kernel_rfl
theorem x3s:tyZ Tryz.prog 57=some [.string ⟨#[]⟩,.string ⟨#[]⟩,.int .i64 0,.int .i64 0]:=by kernel_rfl
theorem w84:tyZ Tryz.prog 69=some [.slice none 0 0,.slice none 0 0]:=by kernel_rfl
theorem y80:tyZ Tryz.prog 83=some [.string ⟨#[]⟩,.string ⟨#[]⟩,.int .i64 0,.int .i64 0,.slice none 0 0,.int .i64 0,.int .i64 0,.bool false]:=by kernel_rfl
theorem w0o:tyZ Tryz.prog 91=some [.string ⟨#[]⟩,.string ⟨#[]⟩]:=by kernel_rfl
theorem x1n:tyZ Tryz.prog 102=some [.string ⟨#[]⟩,.string ⟨#[]⟩]:=by kernel_rfl
theorem x0w:tyZ Tryz.prog 107=some [.string ⟨#[]⟩,.slice none 0 0]:=by kernel_rfl
theorem x1m:tyZ Tryz.prog 118=some [.int .i64 0,.int .i64 0]:=by kernel_rfl
theorem x0v:tyZ Tryz.prog 123=some [.int .i64 0,.string ⟨#[]⟩,.string ⟨#[]⟩,.int .i64 0,.string ⟨#[]⟩]:=by kernel_rfl
theorem w7x:tyZ Tryz.prog 136=some [.map none,.map none]:=by kernel_rfl
theorem x3x:tyF Tryz.prog 25 0=some (0,22):=by kernel_rfl
theorem x1r:tyF Tryz.prog 25 1=some (1,3):=by kernel_rfl
theorem y84:tyF Tryz.prog 29 0=some (0,26):=by kernel_rfl
theorem y0o:tyF Tryz.prog 29 1=some (1,27):=by kernel_rfl
theorem y0n:tyF Tryz.prog 51 0=some (0,3):=by kernel_rfl
theorem y83:tyF Tryz.prog 51 1=some (1,9):=by kernel_rfl
theorem x3w:tyF Tryz.prog 51 2=some (2,3):=by kernel_rfl
theorem x1q:tyF Tryz.prog 51 3=some (3,3):=by kernel_rfl
theorem y6y:tyF Tryz.prog 57 0=some (0,9):=by kernel_rfl
theorem y73:tyF Tryz.prog 57 1=some (1,9):=by kernel_rfl
theorem y58:tyF Tryz.prog 57 2=some (2,3):=by kernel_rfl
theorem y48:tyF Tryz.prog 57 3=some (3,3):=by kernel_rfl
theorem y4l:tyF Tryz.prog 83 0=some (0,9):=by kernel_rfl
theorem x0a:tyF Tryz.prog 83 1=some (1,9):=by kernel_rfl
theorem x6r:tyF Tryz.prog 83 2=some (2,3):=by kernel_rfl
theorem x3v:tyF Tryz.prog 83 3=some (3,3):=by kernel_rfl
theorem y39:tyF Tryz.prog 83 4=some (4,81):=by kernel_rfl
theorem y82:tyF Tryz.prog 83 5=some (5,3):=by kernel_rfl
theorem x6q:tyF Tryz.prog 83 6=some (6,3):=by kernel_rfl
theorem x3u:tyF Tryz.prog 83 7=some (7,4):=by kernel_rfl
theorem w6b:tyF Tryz.prog 91 0=some (0,9):=by kernel_rfl
theorem w6a:tyF Tryz.prog 91 1=some (1,9):=by kernel_rfl
theorem y5e:tyF Tryz.prog 102 0=some (0,9):=by kernel_rfl
theorem x73:tyF Tryz.prog 102 1=some (1,9):=by kernel_rfl
theorem y6q:tyF Tryz.prog 107 0=some (0,9):=by kernel_rfl
theorem x72:tyF Tryz.prog 107 1=some (1,105):=by kernel_rfl
theorem y5d:tyF Tryz.prog 118 0=some (0,3):=by kernel_rfl
theorem x3z:tyF Tryz.prog 118 1=some (1,3):=by kernel_rfl
theorem y0b:tyF Tryz.prog 123 0=some (0,3):=by kernel_rfl
theorem y3g:tyF Tryz.prog 123 1=some (1,9):=by kernel_rfl
theorem y19:tyF Tryz.prog 123 2=some (2,9):=by kernel_rfl
theorem z8k:tyF Tryz.prog 123 3=some (3,3):=by kernel_rfl
theorem y3f:tyF Tryz.prog 123 4=some (4,9):=by kernel_rfl
theorem x3y:tyF Tryz.prog 136 0=some (0,133):=by kernel_rfl
theorem w3p:tyF Tryz.prog 136 1=some (1,134):=by kernel_rfl
theorem w6c:tyE Tryz.prog 22=some (3,1):=by kernel_rfl
theorem y3v:Elem Tryz.prog 22 3 1 8:=Elem.mk (z := .int .i64 0) (by kernel_rfl) (by kernel_rfl) rfl (by decide)
theorem x9i:tyE Tryz.prog 26=some (107,2):=by kernel_rfl
theorem w0s:Elem Tryz.prog 26 107 2 40:=Elem.mk (z := .agg #[.string ⟨#[]⟩,.slice none 0 0]) (by kernel_rfl) (by kernel_rfl) rfl (by decide)
theorem x0b:tyE Tryz.prog 27=some (83,8):=by kernel_rfl
theorem w0r:Elem Tryz.prog 27 83 8 96:=Elem.mk (z := .agg #[.string ⟨#[]⟩,.string ⟨#[]⟩,.int .i64 0,.int .i64 0,.slice none 0 0,.int .i64 0,.int .i64 0,.bool false]) (by kernel_rfl) (by kernel_rfl) rfl (by decide)
theorem x30:tyE Tryz.prog 30=some (102,2):=by kernel_rfl
theorem w59:Elem Tryz.prog 30 102 2 32:=Elem.mk (z := .agg #[.string ⟨#[]⟩,.string ⟨#[]⟩]) (by kernel_rfl) (by kernel_rfl) rfl (by decide)
theorem y6m:tyE Tryz.prog 31=some (123,5):=by kernel_rfl
theorem w73:Elem Tryz.prog 31 123 5 64:=Elem.mk (z := .agg #[.int .i64 0,.string ⟨#[]⟩,.string ⟨#[]⟩,.int .i64 0,.string ⟨#[]⟩]) (by kernel_rfl) (by kernel_rfl) rfl (by decide)
theorem y1k:tyE Tryz.prog 36=some (57,4):=by kernel_rfl
theorem x5l:Elem Tryz.prog 36 57 4 48:=Elem.mk (z := .agg #[.string ⟨#[]⟩,.string ⟨#[]⟩,.int .i64 0,.int .i64 0]) (by kernel_rfl) (by kernel_rfl) rfl (by decide)
theorem x5m:tyE Tryz.prog 81=some (118,2):=by kernel_rfl
theorem x6p:Elem Tryz.prog 81 118 2 16:=Elem.mk (z := .agg #[.int .i64 0,.int .i64 0]) (by kernel_rfl) (by kernel_rfl) rfl (by decide)
theorem w9a:tyE Tryz.prog 99=some (32,1):=by kernel_rfl
theorem w58:Elem Tryz.prog 99 32 1 8:=Elem.mk (z := .int .i64 0) (by kernel_rfl) (by kernel_rfl) rfl (by decide)
theorem y74:tyE Tryz.prog 105=some (9,1):=by kernel_rfl
theorem z83:Elem Tryz.prog 105 9 1 16:=Elem.mk (z := .string ⟨#[]⟩) (by kernel_rfl) (by kernel_rfl) rfl (by decide)
theorem x74:tyE Tryz.prog 109=some (51,4):=by kernel_rfl
theorem x23:Elem Tryz.prog 109 51 4 40:=Elem.mk (z := .agg #[.int .i64 0,.string ⟨#[]⟩,.int .i64 0,.int .i64 0]) (by kernel_rfl) (by kernel_rfl) rfl (by decide)
theorem w5f:tyE Tryz.prog 128=some (36,1):=by kernel_rfl
theorem w5e:Elem Tryz.prog 128 36 1 24:=Elem.mk (z := .slice none 0 0) (by kernel_rfl) (by kernel_rfl) rfl (by decide)
theorem tyU3:Tryz.prog.underlying 3=some (.int .i64):=by kernel_rfl
theorem tyU9:Tryz.prog.underlying 9=some .string:=by kernel_rfl
theorem w0p:Tryz.prog.underlying 22=some (.slice 3):=by kernel_rfl
theorem x9h:Tryz.prog.underlying 26=some (.slice 107):=by kernel_rfl
theorem x1o:Tryz.prog.underlying 27=some (.slice 83):=by kernel_rfl
theorem x3t:Tryz.prog.underlying 30=some (.slice 102):=by kernel_rfl
theorem x01:Tryz.prog.underlying 31=some (.slice 123):=by kernel_rfl
theorem y67:Tryz.prog.underlying 36=some (.slice 57):=by kernel_rfl
theorem x5k:Tryz.prog.underlying 81=some (.slice 118):=by kernel_rfl
theorem w86:Tryz.prog.underlying 99=some (.slice 32):=by kernel_rfl
theorem y4g:Tryz.prog.underlying 105=some (.slice 9):=by kernel_rfl
theorem x7z:Tryz.prog.underlying 109=some (.slice 51):=by kernel_rfl
theorem w5b:Tryz.prog.underlying 128=some (.slice 36):=by kernel_rfl
theorem y6p:Tryz.prog.underlying 161=some (.int .u64):=by kernel_rfl
theorem w88:tyQ Tryz.prog 57=some [.string,.string,.int .i64,.int .i64]:=by kernel_rfl
end Go.Proofs.YthmmalklamiefaaGreatDoor
