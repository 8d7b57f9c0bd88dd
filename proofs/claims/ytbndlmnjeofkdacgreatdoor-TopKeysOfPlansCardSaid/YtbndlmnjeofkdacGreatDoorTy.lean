/- Facts on the types of the program: read off its tables. Printed by a program. -/
import Derived.Test.YtbndlmnjeofkdacGreatDoorRows
import Derived.Test.YtbndlmnjeofkdacGreatDoorMb
namespace Go.Proofs.YtbndlmnjeofkdacGreatDoor

theorem mixed:Tryz.prog.follows .mixedOrders=true:=by kernel_rfl
theorem tyS3:tyS Tryz.prog 3=some (false,1):=by kernel_rfl
theorem tyS4:tyS Tryz.prog 4=some (false,1):=by kernel_rfl
theorem tyS5:tyS Tryz.prog 5=some (false,1):=by kernel_rfl
theorem tyS9:tyS Tryz.prog 9=some (false,1):=by kernel_rfl
theorem y1k:tyS Tryz.prog 22=some (false,1):=by kernel_rfl
theorem z0n:tyS Tryz.prog 26=some (false,1):=by kernel_rfl
theorem ui:tyS Tryz.prog 27=some (false,1):=by kernel_rfl
theorem vj:tyS Tryz.prog 29=some (true,2):=by kernel_rfl
theorem vc:tyS Tryz.prog 36=some (false,1):=by kernel_rfl
theorem y1i:tyS Tryz.prog 43=some (true,5):=by kernel_rfl
theorem x3w:tyS Tryz.prog 44=some (false,1):=by kernel_rfl
theorem x3v:tyS Tryz.prog 45=some (false,1):=by kernel_rfl
theorem x3u:tyS Tryz.prog 46=some (false,1):=by kernel_rfl
theorem z2v:tyS Tryz.prog 48=some (true,6):=by kernel_rfl
theorem vu:tyS Tryz.prog 50=some (true,3):=by kernel_rfl
theorem z6n:tyS Tryz.prog 54=some (true,2):=by kernel_rfl
theorem z2u:tyS Tryz.prog 55=some (false,1):=by kernel_rfl
theorem w1c:tyS Tryz.prog 57=some (true,8):=by kernel_rfl
theorem Zh:tyS Tryz.prog 60=some (true,2):=by kernel_rfl
theorem qn:tyS Tryz.prog 62=some (true,4):=by kernel_rfl
theorem Qt:tyS Tryz.prog 73=some (false,1):=by kernel_rfl
theorem ka:tyS Tryz.prog 75=some (true,8):=by kernel_rfl
theorem y1h:tyS Tryz.prog 77=some (true,2):=by kernel_rfl
theorem z0m:tyS Tryz.prog 79=some (true,2):=by kernel_rfl
theorem z2w:tyS Tryz.prog 101=some (true,2):=by kernel_rfl
theorem x3x:tyS Tryz.prog 106=some (true,3):=by kernel_rfl
theorem vx:tyS Tryz.prog 109=some (true,5):=by kernel_rfl
theorem y6v:tyS Tryz.prog 128=some (false,1):=by kernel_rfl
theorem w1e:tyS Tryz.prog 129=some (false,1):=by kernel_rfl
theorem y6u:tyS Tryz.prog 135=some (true,2):=by kernel_rfl
theorem wu:tyS Tryz.prog 152=some (true,8):=by kernel_rfl
theorem Qu:tyS Tryz.prog 166=some (true,12):=by kernel_rfl
theorem y1l:tyS Tryz.prog 172=some (false,1):=by kernel_rfl
theorem y6t:tyS Tryz.prog 203=some (true,3):=by kernel_rfl
theorem y1j:tyS Tryz.prog 225=some (false,1):=by kernel_rfl
theorem y6s:tyS Tryz.prog 246=some (true,5):=by kernel_rfl
theorem w1d:tyS Tryz.prog 272=some (false,1):=by kernel_rfl
theorem w1l:tyP Tryz.prog 25=some [(0,1),(1,1)]:=by kernel_rfl
theorem w1k:tyP Tryz.prog 29=some [(0,1),(1,1)]:=by kernel_rfl
theorem w1i:tyP Tryz.prog 43=some [(0,1),(1,1),(2,1),(3,1),(4,1)]:=by kernel_rfl
theorem w1h:tyP Tryz.prog 48=some [(0,1),(1,1),(2,1),(3,1),(4,1),(5,1)]:=by kernel_rfl
theorem xo:tyP Tryz.prog 50=some [(0,1),(1,1),(2,1)]:=by kernel_rfl
theorem x30:tyP Tryz.prog 54=some [(0,1),(1,1)]:=by kernel_rfl
theorem w1g:tyP Tryz.prog 57=some [(0,1),(1,1),(2,1),(3,1),(4,1),(5,1),(6,1),(7,1)]:=by kernel_rfl
theorem x3z:tyP Tryz.prog 60=some [(0,1),(1,1)]:=by kernel_rfl
theorem z2x:tyP Tryz.prog 62=some [(0,1),(1,1),(2,1),(3,1)]:=by kernel_rfl
theorem x3y:tyP Tryz.prog 75=some [(0,1),(1,1),(2,1),(3,1),(4,1),(5,1),(6,1),(7,1)]:=by kernel_rfl
theorem w1f:tyP Tryz.prog 77=some [(0,1),(1,1)]:=by kernel_rfl
theorem y6w:tyP Tryz.prog 79=some [(0,1),(1,1)]:=by kernel_rfl
theorem w1p:tyP Tryz.prog 101=some [(0,1),(1,1)]:=by kernel_rfl
theorem w1o:tyP Tryz.prog 106=some [(0,1),(1,1),(2,1)]:=by kernel_rfl
theorem w1n:tyP Tryz.prog 109=some [(0,1),(1,1),(2,1),(3,1),(4,1)]:=by kernel_rfl
theorem w1m:tyP Tryz.prog 131=some [(0,1),(1,1)]:=by kernel_rfl
theorem y6x:tyP Tryz.prog 135=some [(0,1),(1,1)]:=by kernel_rfl
theorem ky:tyP Tryz.prog 152=some [(0,1),(1,1),(2,1),(3,1),(4,1),(5,1),(6,1),(7,1)]:=by kernel_rfl
theorem x31:tyP Tryz.prog 166=some [(0,1),(1,1),(2,1),(3,1),(4,1),(5,1),(6,1),(7,1),(8,1),(9,1),(10,1),(11,1)]:=by kernel_rfl
theorem w1j:tyP Tryz.prog 295=some [(0,1),(1,1),(2,1),(3,1)]:=by kernel_rfl
theorem tyZ3:tyZ Tryz.prog 3=some [.int .i64 0]:=by kernel_rfl
theorem tyZ9:tyZ Tryz.prog 9=some [.string ⟨#[]⟩]:=by kernel_rfl
theorem w04:tyZ Tryz.prog 25=some [.slice none 0 0,.int .i64 0]:=by kernel_rfl
theorem y1e:tyZ Tryz.prog 29=some [.slice none 0 0,.slice none 0 0]:=by kernel_rfl
theorem w02:tyZ Tryz.prog 36=some [.slice none 0 0]:=by kernel_rfl
theorem y6n:tyZ Tryz.prog 43=some [.string ⟨#[]⟩,.string ⟨#[]⟩,.slice none 0 0,.int .i64 0,.int .i64 0]:=by kernel_rfl
theorem x3s:tyZ Tryz.prog 48=some [.string ⟨#[]⟩,.string ⟨#[]⟩,.slice none 0 0,.slice none 0 0,.slice none 0 0,.int .i64 0]:=by kernel_rfl
theorem kn:tyZ Tryz.prog 50=some [.int .i64 0,.string ⟨#[]⟩,.slice none 0 0]:=by kernel_rfl
theorem y1d:tyZ Tryz.prog 54=some [.string ⟨#[]⟩,.string ⟨#[]⟩]:=by kernel_rfl
theorem w01:tyZ Tryz.prog 57=some [.int .i64 0,.string ⟨#[]⟩,.string ⟨#[]⟩,.string ⟨#[]⟩,.string ⟨#[]⟩,.string ⟨#[]⟩,.slice none 0 0,.string ⟨#[]⟩]:=by kernel_rfl
theorem z2r:tyZ Tryz.prog 60=some [.string ⟨#[]⟩,.slice none 0 0]:=by kernel_rfl
theorem jz:tyZ Tryz.prog 62=some [.int .i64 0,.string ⟨#[]⟩,.int .i64 0,.int .i64 0]:=by kernel_rfl
theorem Ys:tyZ Tryz.prog 75=some [.string ⟨#[]⟩,.string ⟨#[]⟩,.int .i64 0,.int .i64 0,.slice none 0 0,.int .i64 0,.int .i64 0,.bool false]:=by kernel_rfl
theorem y6m:tyZ Tryz.prog 77=some [.int .i64 0,.int .i64 0]:=by kernel_rfl
theorem z6k:tyZ Tryz.prog 79=some [.string ⟨#[]⟩,.string ⟨#[]⟩]:=by kernel_rfl
theorem y1g:tyZ Tryz.prog 101=some [.string ⟨#[]⟩,.int .i64 0]:=by kernel_rfl
theorem w09:tyZ Tryz.prog 106=some [.int .i64 0,.slice none 0 0,.string ⟨#[]⟩]:=by kernel_rfl
theorem z0k:tyZ Tryz.prog 109=some [.int .i64 0,.string ⟨#[]⟩,.string ⟨#[]⟩,.int .i64 0,.string ⟨#[]⟩]:=by kernel_rfl
theorem w08:tyZ Tryz.prog 131=some [.map none,.map none]:=by kernel_rfl
theorem y1f:tyZ Tryz.prog 135=some [.string ⟨#[]⟩,.string ⟨#[]⟩]:=by kernel_rfl
theorem jq:tyZ Tryz.prog 152=some [.string ⟨#[]⟩,.string ⟨#[]⟩,.string ⟨#[]⟩,.string ⟨#[]⟩,.slice none 0 0,.slice none 0 0,.int .i64 0,.int .i64 0]:=by kernel_rfl
theorem z6l:tyZ Tryz.prog 166=some [.bool false,.bool false,.bool false,.bool false,.bool false,.bool false,.int .i64 0,.int .i64 0,.int .i64 0,.int .i64 0,.int .i64 0,.int .i64 0]:=by kernel_rfl
theorem w07:tyZ Tryz.prog 194=some [.pointer none,.slice none 0 0]:=by kernel_rfl
theorem w06:tyZ Tryz.prog 203=some [.string ⟨#[]⟩,.int .i64 0,.int .i64 0]:=by kernel_rfl
theorem w05:tyZ Tryz.prog 246=some [.string ⟨#[]⟩,.string ⟨#[]⟩,.int .i64 0,.int .i64 0,.int .i64 0]:=by kernel_rfl
theorem w03:tyZ Tryz.prog 295=some [.slice none 0 0,.bool false,.int .i64 0,.bool false]:=by kernel_rfl
theorem y1r:tyF Tryz.prog 25 0=some (0,22):=by kernel_rfl
theorem z6s:tyF Tryz.prog 25 1=some (1,3):=by kernel_rfl
theorem z0q:tyF Tryz.prog 29 0=some (0,26):=by kernel_rfl
theorem uj:tyF Tryz.prog 29 1=some (1,27):=by kernel_rfl
theorem z0p:tyF Tryz.prog 43 0=some (0,9):=by kernel_rfl
theorem y1q:tyF Tryz.prog 43 1=some (1,9):=by kernel_rfl
theorem x4q:tyF Tryz.prog 43 2=some (2,36):=by kernel_rfl
theorem x4p:tyF Tryz.prog 43 3=some (3,3):=by kernel_rfl
theorem y65:tyF Tryz.prog 43 4=some (4,3):=by kernel_rfl
theorem y64:tyF Tryz.prog 48 0=some (0,9):=by kernel_rfl
theorem x4o:tyF Tryz.prog 48 1=some (1,9):=by kernel_rfl
theorem x4n:tyF Tryz.prog 48 2=some (2,45):=by kernel_rfl
theorem x4m:tyF Tryz.prog 48 3=some (3,46):=by kernel_rfl
theorem x4l:tyF Tryz.prog 48 4=some (4,44):=by kernel_rfl
theorem y63:tyF Tryz.prog 48 5=some (5,3):=by kernel_rfl
theorem y1p:tyF Tryz.prog 50 0=some (0,3):=by kernel_rfl
theorem y62:tyF Tryz.prog 50 1=some (1,9):=by kernel_rfl
theorem z2y:tyF Tryz.prog 50 2=some (2,36):=by kernel_rfl
theorem x4k:tyF Tryz.prog 54 0=some (0,9):=by kernel_rfl
theorem x4j:tyF Tryz.prog 54 1=some (1,9):=by kernel_rfl
theorem y61:tyF Tryz.prog 57 0=some (0,3):=by kernel_rfl
theorem w12:tyF Tryz.prog 57 1=some (1,9):=by kernel_rfl
theorem w11:tyF Tryz.prog 57 2=some (2,9):=by kernel_rfl
theorem w10:tyF Tryz.prog 57 3=some (3,9):=by kernel_rfl
theorem w1z:tyF Tryz.prog 57 4=some (4,9):=by kernel_rfl
theorem w1y:tyF Tryz.prog 57 5=some (5,9):=by kernel_rfl
theorem y60:tyF Tryz.prog 57 6=some (6,55):=by kernel_rfl
theorem w1x:tyF Tryz.prog 57 7=some (7,9):=by kernel_rfl
theorem Zx:tyF Tryz.prog 60 0=some (0,9):=by kernel_rfl
theorem y1o:tyF Tryz.prog 60 1=some (1,36):=by kernel_rfl
theorem jr:tyF Tryz.prog 62 0=some (0,3):=by kernel_rfl
theorem z6q:tyF Tryz.prog 62 1=some (1,9):=by kernel_rfl
theorem y6z:tyF Tryz.prog 62 2=some (2,3):=by kernel_rfl
theorem z6p:tyF Tryz.prog 62 3=some (3,3):=by kernel_rfl
theorem xc:tyF Tryz.prog 75 0=some (0,9):=by kernel_rfl
theorem z6o:tyF Tryz.prog 75 1=some (1,9):=by kernel_rfl
theorem x4i:tyF Tryz.prog 75 2=some (2,3):=by kernel_rfl
theorem x4h:tyF Tryz.prog 75 3=some (3,3):=by kernel_rfl
theorem Qw:tyF Tryz.prog 75 4=some (4,73):=by kernel_rfl
theorem x4g:tyF Tryz.prog 75 5=some (5,3):=by kernel_rfl
theorem x4f:tyF Tryz.prog 75 6=some (6,3):=by kernel_rfl
theorem y1n:tyF Tryz.prog 75 7=some (7,4):=by kernel_rfl
theorem Qv:tyF Tryz.prog 77 0=some (0,3):=by kernel_rfl
theorem x4e:tyF Tryz.prog 77 1=some (1,3):=by kernel_rfl
theorem Yu:tyF Tryz.prog 79 0=some (0,9):=by kernel_rfl
theorem x4d:tyF Tryz.prog 79 1=some (1,9):=by kernel_rfl
theorem y1y:tyF Tryz.prog 101 0=some (0,9):=by kernel_rfl
theorem y7e:tyF Tryz.prog 101 1=some (1,3):=by kernel_rfl
theorem w2e:tyF Tryz.prog 106 0=some (0,3):=by kernel_rfl
theorem y7d:tyF Tryz.prog 106 1=some (1,55):=by kernel_rfl
theorem w2d:tyF Tryz.prog 106 2=some (2,9):=by kernel_rfl
theorem kg:tyF Tryz.prog 109 0=some (0,3):=by kernel_rfl
theorem xp:tyF Tryz.prog 109 1=some (1,9):=by kernel_rfl
theorem uo:tyF Tryz.prog 109 2=some (2,9):=by kernel_rfl
theorem jt:tyF Tryz.prog 109 3=some (3,3):=by kernel_rfl
theorem xd:tyF Tryz.prog 109 4=some (4,9):=by kernel_rfl
theorem y7c:tyF Tryz.prog 131 0=some (0,128):=by kernel_rfl
theorem w2c:tyF Tryz.prog 131 1=some (1,129):=by kernel_rfl
theorem y7b:tyF Tryz.prog 152 0=some (0,9):=by kernel_rfl
theorem y7a:tyF Tryz.prog 152 1=some (1,9):=by kernel_rfl
theorem y69:tyF Tryz.prog 152 2=some (2,9):=by kernel_rfl
theorem y1x:tyF Tryz.prog 152 3=some (3,9):=by kernel_rfl
theorem z6v:tyF Tryz.prog 152 4=some (4,36):=by kernel_rfl
theorem z6u:tyF Tryz.prog 152 5=some (5,36):=by kernel_rfl
theorem y1w:tyF Tryz.prog 152 6=some (6,3):=by kernel_rfl
theorem y1v:tyF Tryz.prog 152 7=some (7,3):=by kernel_rfl
theorem w2b:tyF Tryz.prog 166 0=some (0,4):=by kernel_rfl
theorem x4w:tyF Tryz.prog 166 1=some (1,4):=by kernel_rfl
theorem w18:tyF Tryz.prog 166 2=some (2,4):=by kernel_rfl
theorem w17:tyF Tryz.prog 166 3=some (3,4):=by kernel_rfl
theorem w16:tyF Tryz.prog 166 4=some (4,4):=by kernel_rfl
theorem w15:tyF Tryz.prog 166 5=some (5,4):=by kernel_rfl
theorem y68:tyF Tryz.prog 166 6=some (6,3):=by kernel_rfl
theorem y67:tyF Tryz.prog 166 7=some (7,3):=by kernel_rfl
theorem w14:tyF Tryz.prog 166 8=some (8,3):=by kernel_rfl
theorem w13:tyF Tryz.prog 166 9=some (9,3):=by kernel_rfl
theorem w2a:tyF Tryz.prog 166 10=some (10,3):=by kernel_rfl
theorem w19:tyF Tryz.prog 166 11=some (11,3):=by kernel_rfl
theorem y1u:tyF Tryz.prog 194 1=some (1,172):=by kernel_rfl
theorem z6t:tyF Tryz.prog 203 0=some (0,9):=by kernel_rfl
theorem x4v:tyF Tryz.prog 203 1=some (1,3):=by kernel_rfl
theorem x4u:tyF Tryz.prog 203 2=some (2,3):=by kernel_rfl
theorem y1t:tyF Tryz.prog 246 0=some (0,9):=by kernel_rfl
theorem x4t:tyF Tryz.prog 246 1=some (1,9):=by kernel_rfl
theorem y1s:tyF Tryz.prog 246 2=some (2,3):=by kernel_rfl
theorem x4s:tyF Tryz.prog 246 3=some (3,3):=by kernel_rfl
theorem y66:tyF Tryz.prog 246 4=some (4,3):=by kernel_rfl
theorem z6r:tyF Tryz.prog 295 0=some (0,36):=by kernel_rfl
theorem x4r:tyF Tryz.prog 295 1=some (1,4):=by kernel_rfl
theorem Zi:tyF Tryz.prog 295 2=some (2,3):=by kernel_rfl
theorem Qx:tyF Tryz.prog 295 3=some (3,4):=by kernel_rfl
theorem Yv:tyE Tryz.prog 22=some (3,1):=by kernel_rfl
theorem kf:Elem Tryz.prog 22 3 1 8:=Elem.mk (z := .int .i64 0) (by kernel_rfl) (by kernel_rfl) rfl (by decide)
theorem Qz:tyE Tryz.prog 26=some (60,2):=by kernel_rfl
theorem w1t:Elem Tryz.prog 26 60 2 40:=Elem.mk (z := .agg #[.string ⟨#[]⟩,.slice none 0 0]) (by kernel_rfl) (by kernel_rfl) rfl (by decide)
theorem Zj:tyE Tryz.prog 27=some (75,8):=by kernel_rfl
theorem x4a:Elem Tryz.prog 27 75 8 96:=Elem.mk (z := .agg #[.string ⟨#[]⟩,.string ⟨#[]⟩,.int .i64 0,.int .i64 0,.slice none 0 0,.int .i64 0,.int .i64 0,.bool false]) (by kernel_rfl) (by kernel_rfl) rfl (by decide)
theorem Qy:tyE Tryz.prog 31=some (79,2):=by kernel_rfl
theorem w1r:Elem Tryz.prog 31 79 2 32:=Elem.mk (z := .agg #[.string ⟨#[]⟩,.string ⟨#[]⟩]) (by kernel_rfl) (by kernel_rfl) rfl (by decide)
theorem ju:tyE Tryz.prog 33=some (109,5):=by kernel_rfl
theorem x38:Elem Tryz.prog 33 109 5 64:=Elem.mk (z := .agg #[.int .i64 0,.string ⟨#[]⟩,.string ⟨#[]⟩,.int .i64 0,.string ⟨#[]⟩]) (by kernel_rfl) (by kernel_rfl) rfl (by decide)
theorem wv:tyE Tryz.prog 36=some (9,1):=by kernel_rfl
theorem vn:Elem Tryz.prog 36 9 1 16:=Elem.mk (z := .string ⟨#[]⟩) (by kernel_rfl) (by kernel_rfl) rfl (by decide)
theorem z6w:tyE Tryz.prog 44=some (43,5):=by kernel_rfl
theorem w1q:Elem Tryz.prog 44 43 5 72:=Elem.mk (z := .agg #[.string ⟨#[]⟩,.string ⟨#[]⟩,.slice none 0 0,.int .i64 0,.int .i64 0]) (by kernel_rfl) (by kernel_rfl) rfl (by decide)
theorem z0s:tyE Tryz.prog 45=some (246,5):=by kernel_rfl
theorem y7f:tyE Tryz.prog 46=some (203,3):=by kernel_rfl
theorem x4x:tyE Tryz.prog 55=some (54,2):=by kernel_rfl
theorem x37:Elem Tryz.prog 55 54 2 32:=Elem.mk (z := .agg #[.string ⟨#[]⟩,.string ⟨#[]⟩]) (by kernel_rfl) (by kernel_rfl) rfl (by decide)
theorem z2z:tyE Tryz.prog 73=some (77,2):=by kernel_rfl
theorem x33:Elem Tryz.prog 73 77 2 16:=Elem.mk (z := .agg #[.int .i64 0,.int .i64 0]) (by kernel_rfl) (by kernel_rfl) rfl (by decide)
theorem z6x:tyE Tryz.prog 102=some (101,2):=by kernel_rfl
theorem w1w:Elem Tryz.prog 102 101 2 24:=Elem.mk (z := .agg #[.string ⟨#[]⟩,.int .i64 0]) (by kernel_rfl) (by kernel_rfl) rfl (by decide)
theorem x4z:tyE Tryz.prog 111=some (62,4):=by kernel_rfl
theorem y6y:Elem Tryz.prog 111 62 4 40:=Elem.mk (z := .agg #[.int .i64 0,.string ⟨#[]⟩,.int .i64 0,.int .i64 0]) (by kernel_rfl) (by kernel_rfl) rfl (by decide)
theorem w2g:tyE Tryz.prog 156=some (36,1):=by kernel_rfl
theorem w1v:Elem Tryz.prog 156 36 1 24:=Elem.mk (z := .slice none 0 0) (by kernel_rfl) (by kernel_rfl) rfl (by decide)
theorem x4y:tyE Tryz.prog 172=some (5,1):=by kernel_rfl
theorem z0o:Elem Tryz.prog 172 5 1 1:=Elem.mk (z := .int .u8 0) (by kernel_rfl) (by kernel_rfl) rfl (by decide)
theorem y1z:tyE Tryz.prog 221=some (225,1):=by kernel_rfl
theorem w1u:Elem Tryz.prog 221 225 1 8:=Elem.mk (z := .pointer none) (by kernel_rfl) (by kernel_rfl) rfl (by decide)
theorem w2f:tyE Tryz.prog 269=some (272,1):=by kernel_rfl
theorem w1s:Elem Tryz.prog 269 272 1 8:=Elem.mk (z := .pointer none) (by kernel_rfl) (by kernel_rfl) rfl (by decide)
theorem tyU2:Tryz.prog.underlying 2=some (.int .i64):=by kernel_rfl
theorem tyU3:Tryz.prog.underlying 3=some (.int .i64):=by kernel_rfl
theorem tyU5:Tryz.prog.underlying 5=some (.int .u8):=by kernel_rfl
theorem tyU9:Tryz.prog.underlying 9=some .string:=by kernel_rfl
theorem z6m:Tryz.prog.underlying 22=some (.slice 3):=by kernel_rfl
theorem Qs:Tryz.prog.underlying 26=some (.slice 60):=by kernel_rfl
theorem z0l:Tryz.prog.underlying 27=some (.slice 75):=by kernel_rfl
theorem Qr:Tryz.prog.underlying 31=some (.slice 79):=by kernel_rfl
theorem Ze:Tryz.prog.underlying 33=some (.slice 109):=by kernel_rfl
theorem qr:Tryz.prog.underlying 36=some (.slice 9):=by kernel_rfl
theorem y6r:Tryz.prog.underlying 44=some (.slice 43):=by kernel_rfl
theorem y6q:Tryz.prog.underlying 45=some (.slice 246):=by kernel_rfl
theorem y6p:Tryz.prog.underlying 46=some (.slice 203):=by kernel_rfl
theorem y6o:Tryz.prog.underlying 55=some (.slice 54):=by kernel_rfl
theorem z2s:Tryz.prog.underlying 73=some (.slice 77):=by kernel_rfl
theorem z2t:Tryz.prog.underlying 102=some (.slice 101):=by kernel_rfl
theorem x3t:Tryz.prog.underlying 111=some (.slice 62):=by kernel_rfl
theorem Zg:Tryz.prog.underlying 139=some (.int .u64):=by kernel_rfl
theorem Zf:Tryz.prog.underlying 140=some (.int .u64):=by kernel_rfl
theorem w1b:Tryz.prog.underlying 156=some (.slice 36):=by kernel_rfl
theorem Yt:Tryz.prog.underlying 172=some (.slice 5):=by kernel_rfl
theorem w1a:Tryz.prog.underlying 221=some (.slice 225):=by kernel_rfl
end Go.Proofs.YtbndlmnjeofkdacGreatDoor
