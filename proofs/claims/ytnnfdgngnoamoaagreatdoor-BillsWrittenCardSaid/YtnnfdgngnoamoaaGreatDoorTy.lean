/- Facts on the types of the program: read off its tables. Printed by a program. -/
import Derived.Test.YtnnfdgngnoamoaaGreatDoorRows
import Derived.Test.YtnnfdgngnoamoaaGreatDoorMb
namespace Go.Proofs.YtnnfdgngnoamoaaGreatDoor

theorem mixed:Tryz.prog.follows .mixedOrders=true:=by kernel_rfl
theorem tyS3:tyS Tryz.prog 3=some (false,1):=by kernel_rfl
theorem tyS4:tyS Tryz.prog 4=some (false,1):=by kernel_rfl
theorem tyS9:tyS Tryz.prog 9=some (false,1):=by kernel_rfl
theorem y0h:tyS Tryz.prog 22=some (false,1):=by kernel_rfl
theorem z0b:tyS Tryz.prog 26=some (false,1):=by kernel_rfl
theorem jj:tyS Tryz.prog 27=some (false,1):=by kernel_rfl
theorem ql:tyS Tryz.prog 29=some (true,2):=by kernel_rfl
theorem x6r:tyS Tryz.prog 32=some (false,1):=by kernel_rfl
theorem Zu:tyS Tryz.prog 48=some (false,1):=by kernel_rfl
theorem jh:tyS Tryz.prog 50=some (true,4):=by kernel_rfl
theorem Zd:tyS Tryz.prog 64=some (true,4):=by kernel_rfl
theorem z6l:tyS Tryz.prog 77=some (false,1):=by kernel_rfl
theorem Qm:tyS Tryz.prog 79=some (true,2):=by kernel_rfl
theorem z0a:tyS Tryz.prog 81=some (true,2):=by kernel_rfl
theorem kg:tyS Tryz.prog 82=some (false,1):=by kernel_rfl
theorem vu:tyS Tryz.prog 84=some (true,8):=by kernel_rfl
theorem Wz:tyS Tryz.prog 90=some (true,5):=by kernel_rfl
theorem Zt:tyS Tryz.prog 94=some (true,2):=by kernel_rfl
theorem vk:tyS Tryz.prog 102=some (true,5):=by kernel_rfl
theorem z3n:tyS Tryz.prog 104=some (false,1):=by kernel_rfl
theorem qh:tyS Tryz.prog 108=some (true,4):=by kernel_rfl
theorem x6t:tyS Tryz.prog 114=some (false,1):=by kernel_rfl
theorem x6s:tyS Tryz.prog 116=some (false,1):=by kernel_rfl
theorem y4t:tyS Tryz.prog 117=some (false,1):=by kernel_rfl
theorem jv:tyS Tryz.prog 120=some (true,2):=by kernel_rfl
theorem x6x:tyP Tryz.prog 25=some [(0,1),(1,1)]:=by kernel_rfl
theorem y4v:tyP Tryz.prog 29=some [(0,1),(1,1)]:=by kernel_rfl
theorem x6w:tyP Tryz.prog 50=some [(0,1),(1,1),(2,1),(3,1)]:=by kernel_rfl
theorem y4u:tyP Tryz.prog 64=some [(0,1),(1,1),(2,1),(3,1)]:=by kernel_rfl
theorem z3o:tyP Tryz.prog 79=some [(0,1),(1,1)]:=by kernel_rfl
theorem y0l:tyP Tryz.prog 81=some [(0,1),(1,1)]:=by kernel_rfl
theorem y0k:tyP Tryz.prog 84=some [(0,1),(1,1),(2,1),(3,1),(4,1),(5,1),(6,1),(7,1)]:=by kernel_rfl
theorem y0j:tyP Tryz.prog 90=some [(0,1),(1,1),(2,1),(3,1),(4,1)]:=by kernel_rfl
theorem y0i:tyP Tryz.prog 94=some [(0,1),(1,1)]:=by kernel_rfl
theorem x60:tyP Tryz.prog 102=some [(0,1),(1,1),(2,1),(3,1),(4,1)]:=by kernel_rfl
theorem z6m:tyP Tryz.prog 108=some [(0,1),(1,1),(2,1),(3,1)]:=by kernel_rfl
theorem x6z:tyP Tryz.prog 120=some [(0,1),(1,1)]:=by kernel_rfl
theorem x6y:tyP Tryz.prog 162=some [(0,4),(4,4)]:=by kernel_rfl
theorem tyZ3:tyZ Tryz.prog 3=some [.int .i64 0]:=by kernel_rfl
theorem tyZ4:tyZ Tryz.prog 4=some [.bool false]:=by kernel_rfl
theorem tyZ9:tyZ Tryz.prog 9=some [.string ⟨#[]⟩]:=by kernel_rfl
theorem x6m:tyZ Tryz.prog 25=some [.slice none 0 0,.int .i64 0]:=by kernel_rfl
theorem kn:tyZ Tryz.prog 29=some [.slice none 0 0,.slice none 0 0]:=by kernel_rfl
theorem x6l:tyZ Tryz.prog 48=some [.slice none 0 0]:=by kernel_rfl
theorem Ww:tyZ Tryz.prog 50=some [.string ⟨#[]⟩,.int .i64 0,.slice none 0 0,.int .i64 0]:=by kernel_rfl
theorem z1i:tyZ Tryz.prog 64=some [.string ⟨#[]⟩,.string ⟨#[]⟩,.int .i64 0,.int .i64 0]:=by kernel_rfl
theorem Qi:tyZ Tryz.prog 79=some [.string ⟨#[]⟩,.slice none 0 0]:=by kernel_rfl
theorem Wv:tyZ Tryz.prog 81=some [.int .i64 0,.int .i64 0]:=by kernel_rfl
theorem uj:tyZ Tryz.prog 84=some [.string ⟨#[]⟩,.string ⟨#[]⟩,.int .i64 0,.int .i64 0,.slice none 0 0,.int .i64 0,.int .i64 0,.bool false]:=by kernel_rfl
theorem z3m:tyZ Tryz.prog 90=some [.string ⟨#[]⟩,.string ⟨#[]⟩,.string ⟨#[]⟩,.int .i64 0,.int .i64 0]:=by kernel_rfl
theorem Wu:tyZ Tryz.prog 94=some [.string ⟨#[]⟩,.string ⟨#[]⟩]:=by kernel_rfl
theorem Wx:tyZ Tryz.prog 102=some [.int .i64 0,.string ⟨#[]⟩,.string ⟨#[]⟩,.int .i64 0,.string ⟨#[]⟩]:=by kernel_rfl
theorem x6o:tyZ Tryz.prog 104=some [.slice none 0 0]:=by kernel_rfl
theorem jr:tyZ Tryz.prog 108=some [.int .i64 0,.string ⟨#[]⟩,.int .i64 0,.int .i64 0]:=by kernel_rfl
theorem z6i:tyZ Tryz.prog 120=some [.string ⟨#[]⟩,.string ⟨#[]⟩]:=by kernel_rfl
theorem x6n:tyZ Tryz.prog 162=some [.int .i64 0,.string ⟨#[]⟩,.int .i64 0,.int .i64 0,.int .i64 0,.string ⟨#[]⟩,.int .i64 0,.int .i64 0]:=by kernel_rfl
theorem y0q:tyF Tryz.prog 25 0=some (0,22):=by kernel_rfl
theorem z6s:tyF Tryz.prog 25 1=some (1,3):=by kernel_rfl
theorem z0f:tyF Tryz.prog 29 0=some (0,26):=by kernel_rfl
theorem jk:tyF Tryz.prog 29 1=some (1,27):=by kernel_rfl
theorem z3r:tyF Tryz.prog 50 0=some (0,9):=by kernel_rfl
theorem y0p:tyF Tryz.prog 50 1=some (1,3):=by kernel_rfl
theorem z0e:tyF Tryz.prog 50 2=some (2,48):=by kernel_rfl
theorem xk:tyF Tryz.prog 50 3=some (3,3):=by kernel_rfl
theorem Yr:tyF Tryz.prog 64 0=some (0,9):=by kernel_rfl
theorem z0d:tyF Tryz.prog 64 1=some (1,9):=by kernel_rfl
theorem Zw:tyF Tryz.prog 64 2=some (2,3):=by kernel_rfl
theorem z6r:tyF Tryz.prog 64 3=some (3,3):=by kernel_rfl
theorem Qo:tyF Tryz.prog 79 0=some (0,9):=by kernel_rfl
theorem x0g:tyF Tryz.prog 79 1=some (1,77):=by kernel_rfl
theorem xj:tyF Tryz.prog 81 0=some (0,3):=by kernel_rfl
theorem y0o:tyF Tryz.prog 81 1=some (1,3):=by kernel_rfl
theorem ux:tyF Tryz.prog 84 0=some (0,9):=by kernel_rfl
theorem z3q:tyF Tryz.prog 84 1=some (1,9):=by kernel_rfl
theorem z1m:tyF Tryz.prog 84 2=some (2,3):=by kernel_rfl
theorem z6q:tyF Tryz.prog 84 3=some (3,3):=by kernel_rfl
theorem kz:tyF Tryz.prog 84 4=some (4,82):=by kernel_rfl
theorem y4z:tyF Tryz.prog 84 5=some (5,3):=by kernel_rfl
theorem z6p:tyF Tryz.prog 84 6=some (6,3):=by kernel_rfl
theorem y0n:tyF Tryz.prog 84 7=some (7,4):=by kernel_rfl
theorem y4y:tyF Tryz.prog 90 4=some (4,3):=by kernel_rfl
theorem Zv:tyF Tryz.prog 94 0=some (0,9):=by kernel_rfl
theorem Qn:tyF Tryz.prog 94 1=some (1,9):=by kernel_rfl
theorem jw:tyF Tryz.prog 102 0=some (0,3):=by kernel_rfl
theorem Zf:tyF Tryz.prog 102 1=some (1,9):=by kernel_rfl
theorem uz:tyF Tryz.prog 102 2=some (2,9):=by kernel_rfl
theorem jt:tyF Tryz.prog 102 3=some (3,3):=by kernel_rfl
theorem xl:tyF Tryz.prog 102 4=some (4,9):=by kernel_rfl
theorem vq:tyF Tryz.prog 108 0=some (0,3):=by kernel_rfl
theorem z1o:tyF Tryz.prog 108 1=some (1,9):=by kernel_rfl
theorem Qp:tyF Tryz.prog 108 2=some (2,3):=by kernel_rfl
theorem z1n:tyF Tryz.prog 108 3=some (3,3):=by kernel_rfl
theorem z6u:tyF Tryz.prog 120 0=some (0,9):=by kernel_rfl
theorem y0r:tyF Tryz.prog 120 1=some (1,9):=by kernel_rfl
theorem z6t:tyF Tryz.prog 162 0=some (0,108):=by kernel_rfl
theorem uy:tyF Tryz.prog 162 1=some (4,108):=by kernel_rfl
theorem y40:tyE Tryz.prog 22=some (3,1):=by kernel_rfl
theorem vx:Elem Tryz.prog 22 3 1 8:=Elem.mk (z := .int .i64 0) (by kernel_rfl) (by kernel_rfl) rfl (by decide)
theorem z1q:tyE Tryz.prog 26=some (79,2):=by kernel_rfl
theorem z6o:Elem Tryz.prog 26 79 2 40:=Elem.mk (z := .agg #[.string ⟨#[]⟩,.slice none 0 0]) (by kernel_rfl) (by kernel_rfl) rfl (by decide)
theorem xm:tyE Tryz.prog 27=some (84,8):=by kernel_rfl
theorem z6n:Elem Tryz.prog 27 84 8 96:=Elem.mk (z := .agg #[.string ⟨#[]⟩,.string ⟨#[]⟩,.int .i64 0,.int .i64 0,.slice none 0 0,.int .i64 0,.int .i64 0,.bool false]) (by kernel_rfl) (by kernel_rfl) rfl (by decide)
theorem Zy:tyE Tryz.prog 30=some (94,2):=by kernel_rfl
theorem y4w:Elem Tryz.prog 30 94 2 32:=Elem.mk (z := .agg #[.string ⟨#[]⟩,.string ⟨#[]⟩]) (by kernel_rfl) (by kernel_rfl) rfl (by decide)
theorem jm:tyE Tryz.prog 31=some (102,5):=by kernel_rfl
theorem x0e:Elem Tryz.prog 31 102 5 64:=Elem.mk (z := .agg #[.int .i64 0,.string ⟨#[]⟩,.string ⟨#[]⟩,.int .i64 0,.string ⟨#[]⟩]) (by kernel_rfl) (by kernel_rfl) rfl (by decide)
theorem z1p:tyE Tryz.prog 36=some (64,4):=by kernel_rfl
theorem x0d:Elem Tryz.prog 36 64 4 48:=Elem.mk (z := .agg #[.string ⟨#[]⟩,.string ⟨#[]⟩,.int .i64 0,.int .i64 0]) (by kernel_rfl) (by kernel_rfl) rfl (by decide)
theorem Zx:tyE Tryz.prog 39=some (50,4):=by kernel_rfl
theorem y0m:Elem Tryz.prog 39 50 4 56:=Elem.mk (z := .agg #[.string ⟨#[]⟩,.int .i64 0,.slice none 0 0,.int .i64 0]) (by kernel_rfl) (by kernel_rfl) rfl (by decide)
theorem y0s:tyE Tryz.prog 48=some (90,5):=by kernel_rfl
theorem xi:Elem Tryz.prog 48 90 5 64:=Elem.mk (z := .agg #[.string ⟨#[]⟩,.string ⟨#[]⟩,.string ⟨#[]⟩,.int .i64 0,.int .i64 0]) (by kernel_rfl) (by kernel_rfl) rfl (by decide)
theorem x64:tyE Tryz.prog 72=some (32,1):=by kernel_rfl
theorem x61:Elem Tryz.prog 72 32 1 8:=Elem.mk (z := .int .i64 0) (by kernel_rfl) (by kernel_rfl) rfl (by decide)
theorem Zg:tyE Tryz.prog 77=some (9,1):=by kernel_rfl
theorem vh:Elem Tryz.prog 77 9 1 16:=Elem.mk (z := .string ⟨#[]⟩) (by kernel_rfl) (by kernel_rfl) rfl (by decide)
theorem Qq:tyE Tryz.prog 82=some (81,2):=by kernel_rfl
theorem z1l:Elem Tryz.prog 82 81 2 16:=Elem.mk (z := .agg #[.int .i64 0,.int .i64 0]) (by kernel_rfl) (by kernel_rfl) rfl (by decide)
theorem z6v:tyE Tryz.prog 104=some (108,4):=by kernel_rfl
theorem z3p:Elem Tryz.prog 104 108 4 40:=Elem.mk (z := .agg #[.int .i64 0,.string ⟨#[]⟩,.int .i64 0,.int .i64 0]) (by kernel_rfl) (by kernel_rfl) rfl (by decide)
theorem z1r:tyE Tryz.prog 117=some (120,2):=by kernel_rfl
theorem x0f:Elem Tryz.prog 117 120 2 32:=Elem.mk (z := .agg #[.string ⟨#[]⟩,.string ⟨#[]⟩]) (by kernel_rfl) (by kernel_rfl) rfl (by decide)
theorem tyU3:Tryz.prog.underlying 3=some (.int .i64):=by kernel_rfl
theorem tyU5:Tryz.prog.underlying 5=some (.int .u8):=by kernel_rfl
theorem tyU9:Tryz.prog.underlying 9=some .string:=by kernel_rfl
theorem z6j:Tryz.prog.underlying 22=some (.slice 3):=by kernel_rfl
theorem z1k:Tryz.prog.underlying 26=some (.slice 79):=by kernel_rfl
theorem Zs:Tryz.prog.underlying 27=some (.slice 84):=by kernel_rfl
theorem Yq:Tryz.prog.underlying 30=some (.slice 94):=by kernel_rfl
theorem Zc:Tryz.prog.underlying 31=some (.slice 102):=by kernel_rfl
theorem Wy:Tryz.prog.underlying 36=some (.slice 64):=by kernel_rfl
theorem Qk:Tryz.prog.underlying 39=some (.slice 50):=by kernel_rfl
theorem z1j:Tryz.prog.underlying 48=some (.slice 90):=by kernel_rfl
theorem x6p:Tryz.prog.underlying 72=some (.slice 32):=by kernel_rfl
theorem js:Tryz.prog.underlying 77=some (.slice 9):=by kernel_rfl
theorem Qj:Tryz.prog.underlying 82=some (.slice 81):=by kernel_rfl
theorem z6k:Tryz.prog.underlying 104=some (.slice 108):=by kernel_rfl
theorem x0c:Tryz.prog.underlying 117=some (.slice 120):=by kernel_rfl
theorem x0b:Tryz.prog.underlying 124=some (.pointer 162):=by kernel_rfl
theorem x0a:Tryz.prog.underlying 130=some (.pointer 50):=by kernel_rfl
theorem Ql:Tryz.prog.underlying 149=some (.int .u64):=by kernel_rfl
theorem y99:Tryz.prog.underlying 190=some (.int .u32):=by kernel_rfl
theorem x6q:Tryz.prog.underlying 192=some (.int .u64):=by kernel_rfl
theorem x6v:tyQ Tryz.prog 90=some [.string,.string,.string,.int .i64,.int .i64]:=by kernel_rfl
end Go.Proofs.YtnnfdgngnoamoaaGreatDoor
