/- Facts on the types of the program: read off its tables. Printed by a program. -/
import Derived.Test.YtgdijjmdfcgifaaGreatRows
import Derived.Test.YtgdijjmdfcgifaaGreatMb
namespace Go.Proofs.YtgdijjmdfcgifaaGreat

theorem mixed:Tryz.prog.follows .mixedOrders=true:=by kernel_rfl
theorem tyS3:tyS Tryz.prog 3=some (false,1):=by kernel_rfl
theorem tyS4:tyS Tryz.prog 4=some (false,1):=by kernel_rfl
theorem tyS9:tyS Tryz.prog 9=some (false,1):=by kernel_rfl
theorem vp:tyS Tryz.prog 22=some (false,1):=by kernel_rfl
theorem kd:tyS Tryz.prog 26=some (false,1):=by kernel_rfl
theorem xc:tyS Tryz.prog 28=some (true,3):=by kernel_rfl
theorem xb:tyS Tryz.prog 30=some (true,4):=by kernel_rfl
theorem uq:tyS Tryz.prog 32=some (true,12):=by kernel_rfl
theorem y5r:tyS Tryz.prog 36=some (false,1):=by kernel_rfl
theorem z2x:tyS Tryz.prog 38=some (false,1):=by kernel_rfl
theorem x2j:tyS Tryz.prog 39=some (false,1):=by kernel_rfl
theorem uo:tyS Tryz.prog 50=some (true,2):=by kernel_rfl
theorem z8b:tyS Tryz.prog 56=some (false,1):=by kernel_rfl
theorem Qi:tyS Tryz.prog 64=some (true,2):=by kernel_rfl
theorem kv:tyS Tryz.prog 70=some (true,5):=by kernel_rfl
theorem z5b:tyS Tryz.prog 71=some (false,1):=by kernel_rfl
theorem y5q:tyS Tryz.prog 72=some (false,1):=by kernel_rfl
theorem z5a:tyS Tryz.prog 73=some (false,1):=by kernel_rfl
theorem z1a:tyS Tryz.prog 76=some (false,1):=by kernel_rfl
theorem Ye:tyS Tryz.prog 77=some (false,1):=by kernel_rfl
theorem z2w:tyS Tryz.prog 80=some (false,1):=by kernel_rfl
theorem y5p:tyS Tryz.prog 81=some (false,1):=by kernel_rfl
theorem ku:tyS Tryz.prog 82=some (false,1):=by kernel_rfl
theorem Zj:tyS Tryz.prog 84=some (true,4):=by kernel_rfl
theorem y5t:tyS Tryz.prog 100=some (false,1):=by kernel_rfl
theorem xd:tyS Tryz.prog 102=some (false,1):=by kernel_rfl
theorem z2y:tyS Tryz.prog 108=some (true,4):=by kernel_rfl
theorem vm:tyS Tryz.prog 115=some (true,2):=by kernel_rfl
theorem ja:tyS Tryz.prog 122=some (true,5):=by kernel_rfl
theorem Qj:tyS Tryz.prog 135=some (false,1):=by kernel_rfl
theorem z1b:tyS Tryz.prog 139=some (true,6):=by kernel_rfl
theorem y5s:tyS Tryz.prog 162=some (true,2):=by kernel_rfl
theorem x2s:tyP Tryz.prog 25=some [(0,1),(1,1)]:=by kernel_rfl
theorem y5y:tyP Tryz.prog 28=some [(0,1),(1,1),(2,1)]:=by kernel_rfl
theorem x2r:tyP Tryz.prog 30=some [(0,1),(1,1),(2,1),(3,1)]:=by kernel_rfl
theorem x2q:tyP Tryz.prog 32=some [(0,1),(1,1),(2,1),(3,1),(4,1),(5,3),(8,4)]:=by kernel_rfl
theorem z5c:tyP Tryz.prog 50=some [(0,1),(1,1)]:=by kernel_rfl
theorem x2p:tyP Tryz.prog 64=some [(0,1),(1,1)]:=by kernel_rfl
theorem x2o:tyP Tryz.prog 68=some [(0,1),(1,1)]:=by kernel_rfl
theorem y5x:tyP Tryz.prog 70=some [(0,1),(1,2),(3,1),(4,1)]:=by kernel_rfl
theorem x2n:tyP Tryz.prog 75=some [(0,4),(4,1)]:=by kernel_rfl
theorem x2m:tyP Tryz.prog 79=some [(0,12),(12,1),(13,1),(14,1),(15,1),(16,1),(17,1)]:=by kernel_rfl
theorem y5w:tyP Tryz.prog 84=some [(0,1),(1,1),(2,1),(3,1)]:=by kernel_rfl
theorem x2l:tyP Tryz.prog 86=some [(0,1),(1,1),(2,1),(3,4)]:=by kernel_rfl
theorem x2y:tyP Tryz.prog 104=some [(0,12),(12,1),(13,1),(14,1),(15,1),(16,1),(17,1),(18,1),(19,1),(20,1)]:=by kernel_rfl
theorem y5z:tyP Tryz.prog 108=some [(0,1),(1,1),(2,1),(3,1)]:=by kernel_rfl
theorem z8c:tyP Tryz.prog 115=some [(0,1),(1,1)]:=by kernel_rfl
theorem x2x:tyP Tryz.prog 122=some [(0,1),(1,1),(2,1),(3,1),(4,1)]:=by kernel_rfl
theorem x2w:tyP Tryz.prog 137=some [(0,1),(1,4),(5,1),(6,1),(7,1)]:=by kernel_rfl
theorem x2v:tyP Tryz.prog 139=some [(0,1),(1,1),(2,4)]:=by kernel_rfl
theorem x2u:tyP Tryz.prog 158=some [(0,1),(1,1),(2,1)]:=by kernel_rfl
theorem x2t:tyP Tryz.prog 162=some [(0,1),(1,1)]:=by kernel_rfl
theorem tyZ3:tyZ Tryz.prog 3=some [.int .i64 0]:=by kernel_rfl
theorem tyZ4:tyZ Tryz.prog 4=some [.bool false]:=by kernel_rfl
theorem x2c:tyZ Tryz.prog 25=some [.slice none 0 0,.int .i64 0]:=by kernel_rfl
theorem z48:tyZ Tryz.prog 28=some [.int .i64 0,.int .i64 0,.int .i64 0]:=by kernel_rfl
theorem z47:tyZ Tryz.prog 30=some [.int .i64 0,.int .i64 0,.int .i64 0,.int .i64 0]:=by kernel_rfl
theorem z2v:tyZ Tryz.prog 32=some [.slice none 0 0,.int .i64 0,.int .i64 0,.int .i64 0,.int .i64 0,.int .i64 0,.int .i64 0,.int .i64 0,.int .i64 0,.int .i64 0,.int .i64 0,.int .i64 0]:=by kernel_rfl
theorem Yc:tyZ Tryz.prog 50=some [.int .i64 0,.int .i64 0]:=by kernel_rfl
theorem x2b:tyZ Tryz.prog 56=some [.nilFunc]:=by kernel_rfl
theorem z46:tyZ Tryz.prog 64=some [.string ⟨#[]⟩,.int .i64 0]:=by kernel_rfl
theorem x2a:tyZ Tryz.prog 68=some [.int .i64 0,.int .i64 0]:=by kernel_rfl
theorem Qg:tyZ Tryz.prog 70=some [.string ⟨#[]⟩,.int .i64 0,.int .i64 0,.int .i64 0,.int .i64 0]:=by kernel_rfl
theorem x19:tyZ Tryz.prog 75=some [.int .i64 0,.int .i64 0,.int .i64 0,.int .i64 0,.slice none 0 0]:=by kernel_rfl
theorem x17:tyZ Tryz.prog 77=some [.slice none 0 0]:=by kernel_rfl
theorem x12:tyZ Tryz.prog 79=some [.slice none 0 0,.int .i64 0,.int .i64 0,.int .i64 0,.int .i64 0,.int .i64 0,.int .i64 0,.int .i64 0,.int .i64 0,.int .i64 0,.int .i64 0,.int .i64 0,.slice none 0 0,.slice none 0 0,.slice none 0 0,.pointer none,.slice none 0 0,.slice none 0 0]:=by kernel_rfl
theorem z2u:tyZ Tryz.prog 84=some [.string ⟨#[]⟩,.slice none 0 0,.int .i64 0,.int .i64 0]:=by kernel_rfl
theorem x11:tyZ Tryz.prog 86=some [.int .i64 0,.int .i64 0,.map none,.string ⟨#[]⟩,.slice none 0 0,.int .i64 0,.int .i64 0]:=by kernel_rfl
theorem x2g:tyZ Tryz.prog 104=some [.slice none 0 0,.int .i64 0,.int .i64 0,.int .i64 0,.int .i64 0,.int .i64 0,.int .i64 0,.int .i64 0,.int .i64 0,.int .i64 0,.int .i64 0,.int .i64 0,.slice none 0 0,.slice none 0 0,.slice none 0 0,.slice none 0 0,.slice none 0 0,.int .i64 0,.slice none 0 0,.pointer none,.slice none 0 0]:=by kernel_rfl
theorem y1y:tyZ Tryz.prog 108=some [.string ⟨#[]⟩,.int .i64 0,.int .i64 0,.int .i64 0]:=by kernel_rfl
theorem um:tyZ Tryz.prog 115=some [.string ⟨#[]⟩,.int .i64 0]:=by kernel_rfl
theorem z07:tyZ Tryz.prog 122=some [.int .i64 0,.int .i64 0,.int .i64 0,.int .i64 0,.int .i64 0]:=by kernel_rfl
theorem x2f:tyZ Tryz.prog 137=some [.slice none 0 0,.int .i64 0,.int .i64 0,.int .i64 0,.int .i64 0,.map none,.map none,.map none]:=by kernel_rfl
theorem z49:tyZ Tryz.prog 139=some [.int .i64 0,.int .i64 0,.string ⟨#[]⟩,.int .i64 0,.int .i64 0,.int .i64 0]:=by kernel_rfl
theorem x2e:tyZ Tryz.prog 158=some [.int .i64 0,.string ⟨#[]⟩,.int .i64 0]:=by kernel_rfl
theorem y5l:tyZ Tryz.prog 162=some [.string ⟨#[]⟩,.int .i64 0]:=by kernel_rfl
theorem x2d:tyZ Tryz.prog 170=some [.int .i64 0,.int .i64 0,.int .i64 0]:=by kernel_rfl
theorem z8m:tyF Tryz.prog 25 0=some (0,22):=by kernel_rfl
theorem z5j:tyF Tryz.prog 25 1=some (1,3):=by kernel_rfl
theorem z8l:tyF Tryz.prog 28 0=some (0,3):=by kernel_rfl
theorem z8k:tyF Tryz.prog 28 1=some (1,3):=by kernel_rfl
theorem z8j:tyF Tryz.prog 28 2=some (2,3):=by kernel_rfl
theorem z5i:tyF Tryz.prog 30 0=some (0,3):=by kernel_rfl
theorem z21:tyF Tryz.prog 30 1=some (1,3):=by kernel_rfl
theorem Wy:tyF Tryz.prog 30 2=some (2,3):=by kernel_rfl
theorem z5h:tyF Tryz.prog 30 3=some (3,3):=by kernel_rfl
theorem kx:tyF Tryz.prog 32 0=some (0,26):=by kernel_rfl
theorem Qn:tyF Tryz.prog 32 1=some (1,3):=by kernel_rfl
theorem z1g:tyF Tryz.prog 32 2=some (2,3):=by kernel_rfl
theorem z20:tyF Tryz.prog 32 3=some (3,3):=by kernel_rfl
theorem Wx:tyF Tryz.prog 32 4=some (4,3):=by kernel_rfl
theorem z1f:tyF Tryz.prog 32 5=some (5,28):=by kernel_rfl
theorem z5g:tyF Tryz.prog 32 6=some (8,30):=by kernel_rfl
theorem Yg:tyF Tryz.prog 64 0=some (0,9):=by kernel_rfl
theorem Zk:tyF Tryz.prog 64 1=some (1,3):=by kernel_rfl
theorem Qm:tyF Tryz.prog 68 0=some (0,3):=by kernel_rfl
theorem Ww:tyF Tryz.prog 68 1=some (1,3):=by kernel_rfl
theorem xg:tyF Tryz.prog 70 0=some (0,9):=by kernel_rfl
theorem kj:tyF Tryz.prog 70 1=some (1,68):=by kernel_rfl
theorem z5f:tyF Tryz.prog 70 2=some (3,3):=by kernel_rfl
theorem z1e:tyF Tryz.prog 70 3=some (4,3):=by kernel_rfl
theorem z8i:tyF Tryz.prog 75 0=some (0,30):=by kernel_rfl
theorem z5e:tyF Tryz.prog 75 1=some (4,73):=by kernel_rfl
theorem xf:tyF Tryz.prog 79 0=some (0,32):=by kernel_rfl
theorem x29:tyF Tryz.prog 79 1=some (12,36):=by kernel_rfl
theorem z8h:tyF Tryz.prog 79 2=some (13,22):=by kernel_rfl
theorem z8g:tyF Tryz.prog 79 3=some (14,22):=by kernel_rfl
theorem y56:tyF Tryz.prog 79 4=some (15,72):=by kernel_rfl
theorem z1d:tyF Tryz.prog 79 5=some (16,76):=by kernel_rfl
theorem z2z:tyF Tryz.prog 79 6=some (17,77):=by kernel_rfl
theorem y55:tyF Tryz.prog 84 0=some (0,9):=by kernel_rfl
theorem kw:tyF Tryz.prog 84 1=some (1,82):=by kernel_rfl
theorem z1c:tyF Tryz.prog 84 2=some (2,3):=by kernel_rfl
theorem Ql:tyF Tryz.prog 84 3=some (3,3):=by kernel_rfl
theorem z5d:tyF Tryz.prog 86 0=some (0,3):=by kernel_rfl
theorem y13:tyF Tryz.prog 86 1=some (1,3):=by kernel_rfl
theorem y54:tyF Tryz.prog 86 2=some (2,81):=by kernel_rfl
theorem Wv:tyF Tryz.prog 86 3=some (3,84):=by kernel_rfl
theorem Yi:tyF Tryz.prog 104 0=some (0,32):=by kernel_rfl
theorem x3e:tyF Tryz.prog 104 1=some (12,36):=by kernel_rfl
theorem z22:tyF Tryz.prog 104 3=some (14,38):=by kernel_rfl
theorem z0a:tyF Tryz.prog 104 4=some (15,22):=by kernel_rfl
theorem xh:tyF Tryz.prog 104 5=some (16,102):=by kernel_rfl
theorem y2a:tyF Tryz.prog 104 6=some (17,3):=by kernel_rfl
theorem z8r:tyF Tryz.prog 104 7=some (18,22):=by kernel_rfl
theorem y6b:tyF Tryz.prog 104 8=some (19,100):=by kernel_rfl
theorem z8q:tyF Tryz.prog 104 9=some (20,22):=by kernel_rfl
theorem z8p:tyF Tryz.prog 108 0=some (0,9):=by kernel_rfl
theorem xp:tyF Tryz.prog 108 2=some (2,3):=by kernel_rfl
theorem Zl:tyF Tryz.prog 108 3=some (3,3):=by kernel_rfl
theorem jg:tyF Tryz.prog 115 0=some (0,9):=by kernel_rfl
theorem Qo:tyF Tryz.prog 115 1=some (1,3):=by kernel_rfl
theorem x3d:tyF Tryz.prog 122 0=some (0,3):=by kernel_rfl
theorem y19:tyF Tryz.prog 122 1=some (1,3):=by kernel_rfl
theorem y18:tyF Tryz.prog 122 2=some (2,3):=by kernel_rfl
theorem ky:tyF Tryz.prog 122 3=some (3,3):=by kernel_rfl
theorem Yh:tyF Tryz.prog 122 4=some (4,3):=by kernel_rfl
theorem y6a:tyF Tryz.prog 137 0=some (0,26):=by kernel_rfl
theorem z8o:tyF Tryz.prog 137 1=some (1,30):=by kernel_rfl
theorem z8n:tyF Tryz.prog 137 2=some (5,135):=by kernel_rfl
theorem y59:tyF Tryz.prog 137 3=some (6,135):=by kernel_rfl
theorem y17:tyF Tryz.prog 137 4=some (7,135):=by kernel_rfl
theorem y58:tyF Tryz.prog 139 0=some (0,3):=by kernel_rfl
theorem y57:tyF Tryz.prog 139 1=some (1,3):=by kernel_rfl
theorem jf:tyF Tryz.prog 139 2=some (2,108):=by kernel_rfl
theorem y16:tyF Tryz.prog 158 0=some (0,3):=by kernel_rfl
theorem Wz:tyF Tryz.prog 158 1=some (1,9):=by kernel_rfl
theorem x3c:tyF Tryz.prog 158 2=some (2,3):=by kernel_rfl
theorem x3b:tyF Tryz.prog 162 0=some (0,9):=by kernel_rfl
theorem x3a:tyF Tryz.prog 162 1=some (1,3):=by kernel_rfl
theorem z5k:tyF Tryz.prog 170 0=some (0,3):=by kernel_rfl
theorem y15:tyF Tryz.prog 170 1=some (1,3):=by kernel_rfl
theorem y14:tyF Tryz.prog 170 2=some (2,3):=by kernel_rfl
theorem jr:tyE Tryz.prog 22=some (3,1):=by kernel_rfl
theorem vg:Elem Tryz.prog 22 3 1 8:=Elem.mk (z := .int .i64 0) (by kernel_rfl) (by kernel_rfl) rfl (by decide)
theorem jq:tyE Tryz.prog 26=some (115,2):=by kernel_rfl
theorem Qk:Elem Tryz.prog 26 115 2 24:=Elem.mk (z := .agg #[.string ⟨#[]⟩,.int .i64 0]) (by kernel_rfl) (by kernel_rfl) rfl (by decide)
theorem Qq:tyE Tryz.prog 34=some (64,2):=by kernel_rfl
theorem y52:Elem Tryz.prog 34 64 2 24:=Elem.mk (z := .agg #[.string ⟨#[]⟩,.int .i64 0]) (by kernel_rfl) (by kernel_rfl) rfl (by decide)
theorem Qp:tyE Tryz.prog 36=some (70,5):=by kernel_rfl
theorem y51:Elem Tryz.prog 36 70 5 48:=Elem.mk (z := .agg #[.string ⟨#[]⟩,.int .i64 0,.int .i64 0,.int .i64 0,.int .i64 0]) (by kernel_rfl) (by kernel_rfl) rfl (by decide)
theorem z1h:tyE Tryz.prog 38=some (84,4):=by kernel_rfl
theorem z8f:Elem Tryz.prog 38 84 4 56:=Elem.mk (z := .agg #[.string ⟨#[]⟩,.slice none 0 0,.int .i64 0,.int .i64 0]) (by kernel_rfl) (by kernel_rfl) rfl (by decide)
theorem y2b:tyE Tryz.prog 73=some (170,3):=by kernel_rfl
theorem x23:Elem Tryz.prog 73 170 3 24:=Elem.mk (z := .agg #[.int .i64 0,.int .i64 0,.int .i64 0]) (by kernel_rfl) (by kernel_rfl) rfl (by decide)
theorem z5m:tyE Tryz.prog 76=some (80,1):=by kernel_rfl
theorem y50:Elem Tryz.prog 76 80 1 8:=Elem.mk (z := .pointer none) (by kernel_rfl) (by kernel_rfl) rfl (by decide)
theorem ur:tyE Tryz.prog 77=some (122,5):=by kernel_rfl
theorem z8e:Elem Tryz.prog 77 122 5 40:=Elem.mk (z := .agg #[.int .i64 0,.int .i64 0,.int .i64 0,.int .i64 0,.int .i64 0]) (by kernel_rfl) (by kernel_rfl) rfl (by decide)
theorem z5l:tyE Tryz.prog 82=some (108,4):=by kernel_rfl
theorem z8d:Elem Tryz.prog 82 108 4 40:=Elem.mk (z := .agg #[.string ⟨#[]⟩,.int .i64 0,.int .i64 0,.int .i64 0]) (by kernel_rfl) (by kernel_rfl) rfl (by decide)
theorem x3f:tyE Tryz.prog 94=some (39,1):=by kernel_rfl
theorem x2z:Elem Tryz.prog 94 39 1 8:=Elem.mk (z := .int .i64 0) (by kernel_rfl) (by kernel_rfl) rfl (by decide)
theorem Yj:tyE Tryz.prog 102=some (139,6):=by kernel_rfl
theorem y11:Elem Tryz.prog 102 139 6 56:=Elem.mk (z := .agg #[.int .i64 0,.int .i64 0,.string ⟨#[]⟩,.int .i64 0,.int .i64 0,.int .i64 0]) (by kernel_rfl) (by kernel_rfl) rfl (by decide)
theorem z24:tyE Tryz.prog 111=some (9,1):=by kernel_rfl
theorem Yf:Elem Tryz.prog 111 9 1 16:=Elem.mk (z := .string ⟨#[]⟩) (by kernel_rfl) (by kernel_rfl) rfl (by decide)
theorem x3g:tyE Tryz.prog 160=some (162,2):=by kernel_rfl
theorem y53:Elem Tryz.prog 160 162 2 24:=Elem.mk (z := .agg #[.string ⟨#[]⟩,.int .i64 0]) (by kernel_rfl) (by kernel_rfl) rfl (by decide)
theorem tyU3:Tryz.prog.underlying 3=some (.int .i64):=by kernel_rfl
theorem tyU9:Tryz.prog.underlying 9=some .string:=by kernel_rfl
theorem y5n:Tryz.prog.underlying 21=some (.int .i32):=by kernel_rfl
theorem z09:Tryz.prog.underlying 22=some (.slice 3):=by kernel_rfl
theorem vw:Tryz.prog.underlying 26=some (.slice 115):=by kernel_rfl
theorem Qh:Tryz.prog.underlying 34=some (.slice 64):=by kernel_rfl
theorem Wt:Tryz.prog.underlying 36=some (.slice 70):=by kernel_rfl
theorem Yd:Tryz.prog.underlying 38=some (.slice 84):=by kernel_rfl
theorem y5m:Tryz.prog.underlying 73=some (.slice 170):=by kernel_rfl
theorem y1z:Tryz.prog.underlying 76=some (.slice 80):=by kernel_rfl
theorem z08:Tryz.prog.underlying 77=some (.slice 122):=by kernel_rfl
theorem Zi:Tryz.prog.underlying 82=some (.slice 108):=by kernel_rfl
theorem x2h:Tryz.prog.underlying 94=some (.slice 39):=by kernel_rfl
theorem z8a:Tryz.prog.underlying 102=some (.slice 139):=by kernel_rfl
theorem Wu:Tryz.prog.underlying 111=some (.slice 9):=by kernel_rfl
theorem y10:tyMB Tryz.prog 120 9 4:=⟨by kernel_rfl,by kernel_rfl,by kernel_rfl,fun w=>by kernel_rfl⟩
theorem xe:tyMI Tryz.prog 135 9 3:=⟨by kernel_rfl,by kernel_rfl,by kernel_rfl,fun w=>by kernel_rfl⟩
theorem x2i:Tryz.prog.underlying 160=some (.slice 162):=by kernel_rfl
theorem y5o:Tryz.prog.underlying 164=some (.int .u64):=by kernel_rfl
theorem y5v:tyQ Tryz.prog 50=some [.int .i64,.int .i64]:=by kernel_rfl
theorem x2k:tyQ Tryz.prog 108=some [.string,.int .i64,.int .i64,.int .i64]:=by kernel_rfl
end Go.Proofs.YtgdijjmdfcgifaaGreat
