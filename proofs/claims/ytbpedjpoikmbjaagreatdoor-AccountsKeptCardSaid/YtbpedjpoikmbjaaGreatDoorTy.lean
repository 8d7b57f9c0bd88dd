import Derived.Test.YtbpedjpoikmbjaaGreatDoorRows
import Derived.Test.YtbpedjpoikmbjaaGreatDoorMb
namespace Go.Proofs.YtbpedjpoikmbjaaGreatDoor

theorem mixed:Tryz.prog.follows .mixedOrders=true:=by kernel_rfl
theorem tyS3:tyS Tryz.prog 3=some (false,1):=by kernel_rfl
theorem tyS4:tyS Tryz.prog 4=some (false,1):=by kernel_rfl
theorem tyS9:tyS Tryz.prog 9=some (false,1):=by kernel_rfl
theorem y12:tyS Tryz.prog 22=some (false,1):=by kernel_rfl
theorem z0j:tyS Tryz.prog 26=some (false,1):=by kernel_rfl
theorem jn:tyS Tryz.prog 27=some (false,1):=by kernel_rfl
theorem qh:tyS Tryz.prog 29=some (true,2):=by kernel_rfl
theorem x88:tyS Tryz.prog 32=some (false,1):=by kernel_rfl
theorem z0i:tyS Tryz.prog 45=some (false,1):=by kernel_rfl
theorem xv:tyS Tryz.prog 53=some (true,2):=by kernel_rfl
theorem Zr:tyS Tryz.prog 70=some (true,4):=by kernel_rfl
theorem z0h:tyS Tryz.prog 72=some (true,3):=by kernel_rfl
theorem x87:tyS Tryz.prog 76=some (false,1):=by kernel_rfl
theorem Qy:tyS Tryz.prog 92=some (false,1):=by kernel_rfl
theorem ud:tyS Tryz.prog 94=some (true,4):=by kernel_rfl
theorem Qx:tyS Tryz.prog 98=some (true,2):=by kernel_rfl
theorem z0k:tyS Tryz.prog 100=some (true,2):=by kernel_rfl
theorem ku:tyS Tryz.prog 101=some (false,1):=by kernel_rfl
theorem jb:tyS Tryz.prog 103=some (true,8):=by kernel_rfl
theorem vo:tyS Tryz.prog 108=some (true,5):=by kernel_rfl
theorem z4i:tyS Tryz.prog 110=some (false,1):=by kernel_rfl
theorem ql:tyS Tryz.prog 114=some (true,4):=by kernel_rfl
theorem z4h:tyS Tryz.prog 132=some (true,5):=by kernel_rfl
theorem x9a:tyS Tryz.prog 151=some (false,1):=by kernel_rfl
theorem x89:tyS Tryz.prog 153=some (false,1):=by kernel_rfl
theorem y59:tyS Tryz.prog 154=some (false,1):=by kernel_rfl
theorem kb:tyS Tryz.prog 157=some (true,2):=by kernel_rfl
theorem x9d:tyP Tryz.prog 25=some [(0,1),(1,1)]:=by kernel_rfl
theorem y6b:tyP Tryz.prog 29=some [(0,1),(1,1)]:=by kernel_rfl
theorem y13:tyP Tryz.prog 53=some [(0,1),(1,1)]:=by kernel_rfl
theorem y6a:tyP Tryz.prog 70=some [(0,1),(1,1),(2,1),(3,1)]:=by kernel_rfl
theorem x9c:tyP Tryz.prog 72=some [(0,1),(1,1),(2,1)]:=by kernel_rfl
theorem x9b:tyP Tryz.prog 94=some [(0,1),(1,1),(2,1),(3,1)]:=by kernel_rfl
theorem z4j:tyP Tryz.prog 98=some [(0,1),(1,1)]:=by kernel_rfl
theorem y16:tyP Tryz.prog 100=some [(0,1),(1,1)]:=by kernel_rfl
theorem y15:tyP Tryz.prog 103=some [(0,1),(1,1),(2,1),(3,1),(4,1),(5,1),(6,1),(7,1)]:=by kernel_rfl
theorem x9g:tyP Tryz.prog 108=some [(0,1),(1,1),(2,1),(3,1),(4,1)]:=by kernel_rfl
theorem z78:tyP Tryz.prog 114=some [(0,1),(1,1),(2,1),(3,1)]:=by kernel_rfl
theorem y14:tyP Tryz.prog 132=some [(0,1),(1,1),(2,1),(3,1),(4,1)]:=by kernel_rfl
theorem x9f:tyP Tryz.prog 157=some [(0,1),(1,1)]:=by kernel_rfl
theorem x9e:tyP Tryz.prog 196=some [(0,4),(4,4)]:=by kernel_rfl
theorem tyZ3:tyZ Tryz.prog 3=some [.int .i64 0]:=by kernel_rfl
theorem tyZ4:tyZ Tryz.prog 4=some [.bool false]:=by kernel_rfl
theorem tyZ9:tyZ Tryz.prog 9=some [.string ⟨#[]⟩]:=by kernel_rfl
theorem x82:tyZ Tryz.prog 25=some [.slice none 0 0,.int .i64 0]:=by kernel_rfl
theorem uc:tyZ Tryz.prog 29=some [.slice none 0 0,.slice none 0 0]:=by kernel_rfl
theorem Qu:tyZ Tryz.prog 53=some [.string ⟨#[]⟩,.string ⟨#[]⟩]:=by kernel_rfl
theorem z1x:tyZ Tryz.prog 70=some [.string ⟨#[]⟩,.string ⟨#[]⟩,.int .i64 0,.int .i64 0]:=by kernel_rfl
theorem z71:tyZ Tryz.prog 72=some [.int .i64 0,.string ⟨#[]⟩,.int .i64 0]:=by kernel_rfl
theorem x80:tyZ Tryz.prog 92=some [.slice none 0 0]:=by kernel_rfl
theorem z4f:tyZ Tryz.prog 94=some [.string ⟨#[]⟩,.int .i64 0,.slice none 0 0,.int .i64 0]:=by kernel_rfl
theorem Qt:tyZ Tryz.prog 98=some [.string ⟨#[]⟩,.slice none 0 0]:=by kernel_rfl
theorem z0e:tyZ Tryz.prog 100=some [.int .i64 0,.int .i64 0]:=by kernel_rfl
theorem uw:tyZ Tryz.prog 103=some [.string ⟨#[]⟩,.string ⟨#[]⟩,.int .i64 0,.int .i64 0,.slice none 0 0,.int .i64 0,.int .i64 0,.bool false]:=by kernel_rfl
theorem z0d:tyZ Tryz.prog 108=some [.int .i64 0,.string ⟨#[]⟩,.string ⟨#[]⟩,.int .i64 0,.string ⟨#[]⟩]:=by kernel_rfl
theorem x84:tyZ Tryz.prog 110=some [.slice none 0 0]:=by kernel_rfl
theorem jw:tyZ Tryz.prog 114=some [.int .i64 0,.string ⟨#[]⟩,.int .i64 0,.int .i64 0]:=by kernel_rfl
theorem z4g:tyZ Tryz.prog 132=some [.string ⟨#[]⟩,.string ⟨#[]⟩,.string ⟨#[]⟩,.int .i64 0,.int .i64 0]:=by kernel_rfl
theorem z73:tyZ Tryz.prog 157=some [.string ⟨#[]⟩,.string ⟨#[]⟩]:=by kernel_rfl
theorem x83:tyZ Tryz.prog 196=some [.int .i64 0,.string ⟨#[]⟩,.int .i64 0,.int .i64 0,.int .i64 0,.string ⟨#[]⟩,.int .i64 0,.int .i64 0]:=by kernel_rfl
theorem y18:tyF Tryz.prog 25 0=some (0,22):=by kernel_rfl
theorem z8e:tyF Tryz.prog 25 1=some (1,3):=by kernel_rfl
theorem z0o:tyF Tryz.prog 29 0=some (0,26):=by kernel_rfl
theorem jo:tyF Tryz.prog 29 1=some (1,27):=by kernel_rfl
theorem Yp:tyF Tryz.prog 53 0=some (0,9):=by kernel_rfl
theorem uy:tyF Tryz.prog 53 1=some (1,9):=by kernel_rfl
theorem Qe:tyF Tryz.prog 70 0=some (0,9):=by kernel_rfl
theorem z0n:tyF Tryz.prog 70 1=some (1,9):=by kernel_rfl
theorem Yo:tyF Tryz.prog 70 2=some (2,3):=by kernel_rfl
theorem z8d:tyF Tryz.prog 70 3=some (3,3):=by kernel_rfl
theorem Wd:tyF Tryz.prog 72 0=some (0,3):=by kernel_rfl
theorem z8c:tyF Tryz.prog 72 1=some (1,9):=by kernel_rfl
theorem z8b:tyF Tryz.prog 72 2=some (2,3):=by kernel_rfl
theorem z4m:tyF Tryz.prog 94 0=some (0,9):=by kernel_rfl
theorem x2t:tyF Tryz.prog 94 1=some (1,3):=by kernel_rfl
theorem z4l:tyF Tryz.prog 94 2=some (2,92):=by kernel_rfl
theorem z0m:tyF Tryz.prog 94 3=some (3,3):=by kernel_rfl
theorem Qz:tyF Tryz.prog 98 0=some (0,9):=by kernel_rfl
theorem x2s:tyF Tryz.prog 98 1=some (1,45):=by kernel_rfl
theorem xz:tyF Tryz.prog 100 0=some (0,3):=by kernel_rfl
theorem y2b:tyF Tryz.prog 100 1=some (1,3):=by kernel_rfl
theorem xm:tyF Tryz.prog 103 0=some (0,9):=by kernel_rfl
theorem z4n:tyF Tryz.prog 103 1=some (1,9):=by kernel_rfl
theorem z12:tyF Tryz.prog 103 2=some (2,3):=by kernel_rfl
theorem z8i:tyF Tryz.prog 103 3=some (3,3):=by kernel_rfl
theorem ul:tyF Tryz.prog 103 4=some (4,101):=by kernel_rfl
theorem y6g:tyF Tryz.prog 103 5=some (5,3):=by kernel_rfl
theorem z8h:tyF Tryz.prog 103 6=some (6,3):=by kernel_rfl
theorem y2a:tyF Tryz.prog 103 7=some (7,4):=by kernel_rfl
theorem ke:tyF Tryz.prog 108 0=some (0,3):=by kernel_rfl
theorem Zt:tyF Tryz.prog 108 1=some (1,9):=by kernel_rfl
theorem xl:tyF Tryz.prog 108 2=some (2,9):=by kernel_rfl
theorem jx:tyF Tryz.prog 108 3=some (3,3):=by kernel_rfl
theorem xy:tyF Tryz.prog 108 4=some (4,9):=by kernel_rfl
theorem vu:tyF Tryz.prog 114 0=some (0,3):=by kernel_rfl
theorem z11:tyF Tryz.prog 114 1=some (1,9):=by kernel_rfl
theorem We:tyF Tryz.prog 114 2=some (2,3):=by kernel_rfl
theorem z10:tyF Tryz.prog 114 3=some (3,3):=by kernel_rfl
theorem y6f:tyF Tryz.prog 132 4=some (4,3):=by kernel_rfl
theorem z8g:tyF Tryz.prog 157 0=some (0,9):=by kernel_rfl
theorem y19:tyF Tryz.prog 157 1=some (1,9):=by kernel_rfl
theorem z8f:tyF Tryz.prog 196 0=some (0,114):=by kernel_rfl
theorem xk:tyF Tryz.prog 196 1=some (4,114):=by kernel_rfl
theorem y6h:tyE Tryz.prog 22=some (3,1):=by kernel_rfl
theorem vq:Elem Tryz.prog 22 3 1 8:=Elem.mk (z:=.int .i64 0) (by kernel_rfl) (by kernel_rfl) rfl (by decide)
theorem z15:tyE Tryz.prog 26=some (98,2):=by kernel_rfl
theorem z8a:Elem Tryz.prog 26 98 2 40:=Elem.mk (z:=.agg #[.string ⟨#[]⟩,.slice none 0 0]) (by kernel_rfl) (by kernel_rfl) rfl (by decide)
theorem Za:tyE Tryz.prog 27=some (103,8):=by kernel_rfl
theorem z79:Elem Tryz.prog 27 103 8 96:=Elem.mk (z:=.agg #[.string ⟨#[]⟩,.string ⟨#[]⟩,.int .i64 0,.int .i64 0,.slice none 0 0,.int .i64 0,.int .i64 0,.bool false]) (by kernel_rfl) (by kernel_rfl) rfl (by decide)
theorem Zu:tyE Tryz.prog 30=some (53,2):=by kernel_rfl
theorem y6d:Elem Tryz.prog 30 53 2 32:=Elem.mk (z:=.agg #[.string ⟨#[]⟩,.string ⟨#[]⟩]) (by kernel_rfl) (by kernel_rfl) rfl (by decide)
theorem js:tyE Tryz.prog 31=some (108,5):=by kernel_rfl
theorem x2q:Elem Tryz.prog 31 108 5 64:=Elem.mk (z:=.agg #[.int .i64 0,.string ⟨#[]⟩,.string ⟨#[]⟩,.int .i64 0,.string ⟨#[]⟩]) (by kernel_rfl) (by kernel_rfl) rfl (by decide)
theorem z14:tyE Tryz.prog 36=some (70,4):=by kernel_rfl
theorem x2p:Elem Tryz.prog 36 70 4 48:=Elem.mk (z:=.agg #[.string ⟨#[]⟩,.string ⟨#[]⟩,.int .i64 0,.int .i64 0]) (by kernel_rfl) (by kernel_rfl) rfl (by decide)
theorem z13:tyE Tryz.prog 38=some (72,3):=by kernel_rfl
theorem x2o:Elem Tryz.prog 38 72 3 32:=Elem.mk (z:=.agg #[.int .i64 0,.string ⟨#[]⟩,.int .i64 0]) (by kernel_rfl) (by kernel_rfl) rfl (by decide)
theorem um:tyE Tryz.prog 45=some (9,1):=by kernel_rfl
theorem ww:Elem Tryz.prog 45 9 1 16:=Elem.mk (z:=.string ⟨#[]⟩) (by kernel_rfl) (by kernel_rfl) rfl (by decide)
theorem x9i:tyE Tryz.prog 84=some (32,1):=by kernel_rfl
theorem y6c:Elem Tryz.prog 84 32 1 8:=Elem.mk (z:=.int .i64 0) (by kernel_rfl) (by kernel_rfl) rfl (by decide)
theorem z0p:tyE Tryz.prog 90=some (94,4):=by kernel_rfl
theorem y17:Elem Tryz.prog 90 94 4 56:=Elem.mk (z:=.agg #[.string ⟨#[]⟩,.int .i64 0,.slice none 0 0,.int .i64 0]) (by kernel_rfl) (by kernel_rfl) rfl (by decide)
theorem x2u:tyE Tryz.prog 92=some (132,5):=by kernel_rfl
theorem xw:Elem Tryz.prog 92 132 5 64:=Elem.mk (z:=.agg #[.string ⟨#[]⟩,.string ⟨#[]⟩,.string ⟨#[]⟩,.int .i64 0,.int .i64 0]) (by kernel_rfl) (by kernel_rfl) rfl (by decide)
theorem Wg:tyE Tryz.prog 101=some (100,2):=by kernel_rfl
theorem z1z:Elem Tryz.prog 101 100 2 16:=Elem.mk (z:=.agg #[.int .i64 0,.int .i64 0]) (by kernel_rfl) (by kernel_rfl) rfl (by decide)
theorem z8j:tyE Tryz.prog 110=some (114,4):=by kernel_rfl
theorem z4k:Elem Tryz.prog 110 114 4 40:=Elem.mk (z:=.agg #[.int .i64 0,.string ⟨#[]⟩,.int .i64 0,.int .i64 0]) (by kernel_rfl) (by kernel_rfl) rfl (by decide)
theorem z16:tyE Tryz.prog 154=some (157,2):=by kernel_rfl
theorem x2r:Elem Tryz.prog 154 157 2 32:=Elem.mk (z:=.agg #[.string ⟨#[]⟩,.string ⟨#[]⟩]) (by kernel_rfl) (by kernel_rfl) rfl (by decide)
theorem tyU3:Tryz.prog.underlying 3=some (.int .i64):=by kernel_rfl
theorem tyU5:Tryz.prog.underlying 5=some (.int .u8):=by kernel_rfl
theorem tyU9:Tryz.prog.underlying 9=some .string:=by kernel_rfl
theorem z74:Tryz.prog.underlying 22=some (.slice 3):=by kernel_rfl
theorem z1y:Tryz.prog.underlying 26=some (.slice 98):=by kernel_rfl
theorem Yn:Tryz.prog.underlying 27=some (.slice 103):=by kernel_rfl
theorem Ym:Tryz.prog.underlying 30=some (.slice 53):=by kernel_rfl
theorem Zq:Tryz.prog.underlying 31=some (.slice 108):=by kernel_rfl
theorem z0g:Tryz.prog.underlying 36=some (.slice 70):=by kernel_rfl
theorem z0f:Tryz.prog.underlying 38=some (.slice 72):=by kernel_rfl
theorem jk:Tryz.prog.underlying 45=some (.slice 9):=by kernel_rfl
theorem x85:Tryz.prog.underlying 84=some (.slice 32):=by kernel_rfl
theorem y58:Tryz.prog.underlying 90=some (.slice 94):=by kernel_rfl
theorem y11:Tryz.prog.underlying 92=some (.slice 132):=by kernel_rfl
theorem Qw:Tryz.prog.underlying 101=some (.slice 100):=by kernel_rfl
theorem z77:Tryz.prog.underlying 110=some (.slice 114):=by kernel_rfl
theorem Qv:Tryz.prog.underlying 139=some (.int .u64):=by kernel_rfl
theorem x2n:Tryz.prog.underlying 154=some (.slice 157):=by kernel_rfl
theorem x2m:Tryz.prog.underlying 161=some (.pointer 196):=by kernel_rfl
theorem x2l:Tryz.prog.underlying 167=some (.pointer 94):=by kernel_rfl
theorem x2k:Tryz.prog.underlying 183=some (.int .u32):=by kernel_rfl
theorem x86:Tryz.prog.underlying 185=some (.int .u64):=by kernel_rfl
end Go.Proofs.YtbpedjpoikmbjaaGreatDoor
