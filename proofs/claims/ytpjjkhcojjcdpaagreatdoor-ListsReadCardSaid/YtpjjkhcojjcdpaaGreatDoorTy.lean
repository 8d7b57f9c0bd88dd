/- Facts on the types of the program: read off its tables. Printed by a program. -/
import Derived.Test.YtpjjkhcojjcdpaaGreatDoorRows
import Derived.Test.YtpjjkhcojjcdpaaGreatDoorMb
namespace Go.Proofs.YtpjjkhcojjcdpaaGreatDoor

theorem mixed:Tryz.prog.follows .mixedOrders=true:=by kernel_rfl
theorem tyS3:tyS Tryz.prog 3=some (false,1):=by kernel_rfl
theorem tyS4:tyS Tryz.prog 4=some (false,1):=by kernel_rfl
theorem tyS5:tyS Tryz.prog 5=some (false,1):=by kernel_rfl
theorem tyS9:tyS Tryz.prog 9=some (false,1):=by kernel_rfl
theorem z2s:tyS Tryz.prog 22=some (false,1):=by kernel_rfl
theorem wu:tyS Tryz.prog 43=some (false,1):=by kernel_rfl
theorem qf:tyS Tryz.prog 45=some (true,3):=by kernel_rfl
theorem um:tyS Tryz.prog 47=some (true,2):=by kernel_rfl
theorem z2r:tyS Tryz.prog 86=some (false,1):=by kernel_rfl
theorem y2b:tyP Tryz.prog 25=some [(0,1),(1,1)]:=by kernel_rfl
theorem z49:tyP Tryz.prog 45=some [(0,1),(1,1),(2,1)]:=by kernel_rfl
theorem z2t:tyP Tryz.prog 47=some [(0,1),(1,1)]:=by kernel_rfl
theorem y2a:tyP Tryz.prog 53=some [(0,1),(1,1),(2,1)]:=by kernel_rfl
theorem y19:tyP Tryz.prog 60=some [(0,1)]:=by kernel_rfl
theorem tyZ4:tyZ Tryz.prog 4=some [.bool false]:=by kernel_rfl
theorem y16:tyZ Tryz.prog 25=some [.slice none 0 0,.int .i64 0]:=by kernel_rfl
theorem vy:tyZ Tryz.prog 45=some [.string ⟨#[]⟩,.slice none 0 0,.int .i64 0]:=by kernel_rfl
theorem xw:tyZ Tryz.prog 47=some [.string ⟨#[]⟩,.string ⟨#[]⟩]:=by kernel_rfl
theorem y15:tyZ Tryz.prog 53=some [.string ⟨#[]⟩,.int .i64 0,.bool false]:=by kernel_rfl
theorem y14:tyZ Tryz.prog 60=some [.string ⟨#[]⟩]:=by kernel_rfl
theorem y13:tyZ Tryz.prog 88=some [.pointer none,.slice none 0 0]:=by kernel_rfl
theorem z2x:tyF Tryz.prog 25 0=some (0,22):=by kernel_rfl
theorem z0j:tyF Tryz.prog 25 1=some (1,3):=by kernel_rfl
theorem ki:tyF Tryz.prog 45 0=some (0,9):=by kernel_rfl
theorem wv:tyF Tryz.prog 45 1=some (1,43):=by kernel_rfl
theorem jm:tyF Tryz.prog 45 2=some (2,3):=by kernel_rfl
theorem Za:tyF Tryz.prog 47 0=some (0,9):=by kernel_rfl
theorem z2w:tyF Tryz.prog 47 1=some (1,9):=by kernel_rfl
theorem vz:tyF Tryz.prog 53 0=some (0,9):=by kernel_rfl
theorem qq:tyF Tryz.prog 53 1=some (1,3):=by kernel_rfl
theorem va:tyF Tryz.prog 53 2=some (2,4):=by kernel_rfl
theorem qb:tyF Tryz.prog 60 0=some (0,9):=by kernel_rfl
theorem z2v:tyF Tryz.prog 88 1=some (1,86):=by kernel_rfl
theorem z8g:tyE Tryz.prog 22=some (3,1):=by kernel_rfl
theorem z2u:Elem Tryz.prog 22 3 1 8:=Elem.mk (z := .int .i64 0) (by kernel_rfl) (by kernel_rfl) rfl (by decide)
theorem Qb:tyE Tryz.prog 27=some (45,3):=by kernel_rfl
theorem Qa:Elem Tryz.prog 27 45 3 48:=Elem.mk (z := .agg #[.string ⟨#[]⟩,.slice none 0 0,.int .i64 0]) (by kernel_rfl) (by kernel_rfl) rfl (by decide)
theorem z0k:tyE Tryz.prog 43=some (47,2):=by kernel_rfl
theorem un:Elem Tryz.prog 43 47 2 32:=Elem.mk (z := .agg #[.string ⟨#[]⟩,.string ⟨#[]⟩]) (by kernel_rfl) (by kernel_rfl) rfl (by decide)
theorem z5b:tyE Tryz.prog 63=some (9,1):=by kernel_rfl
theorem wb:Elem Tryz.prog 63 9 1 16:=Elem.mk (z := .string ⟨#[]⟩) (by kernel_rfl) (by kernel_rfl) rfl (by decide)
theorem z8f:tyE Tryz.prog 86=some (5,1):=by kernel_rfl
theorem xz:Elem Tryz.prog 86 5 1 1:=Elem.mk (z := .int .u8 0) (by kernel_rfl) (by kernel_rfl) rfl (by decide)
theorem tyU2:Tryz.prog.underlying 2=some (.int .i64):=by kernel_rfl
theorem tyU3:Tryz.prog.underlying 3=some (.int .i64):=by kernel_rfl
theorem tyU5:Tryz.prog.underlying 5=some (.int .u8):=by kernel_rfl
theorem tyU9:Tryz.prog.underlying 9=some .string:=by kernel_rfl
theorem z2q:Tryz.prog.underlying 21=some (.int .i32):=by kernel_rfl
theorem z2p:Tryz.prog.underlying 22=some (.slice 3):=by kernel_rfl
theorem jl:Tryz.prog.underlying 27=some (.slice 45):=by kernel_rfl
theorem kh:Tryz.prog.underlying 43=some (.slice 47):=by kernel_rfl
theorem z2o:Tryz.prog.underlying 63=some (.slice 9):=by kernel_rfl
theorem xx:Tryz.prog.underlying 86=some (.slice 5):=by kernel_rfl
theorem xy:Tryz.prog.underlying 147=some (.int .u64):=by kernel_rfl
theorem z8e:Tryz.prog.underlying 150=some (.int .u64):=by kernel_rfl
theorem y18:tyQ Tryz.prog 47=some [.string,.string]:=by kernel_rfl
end Go.Proofs.YtpjjkhcojjcdpaaGreatDoor
