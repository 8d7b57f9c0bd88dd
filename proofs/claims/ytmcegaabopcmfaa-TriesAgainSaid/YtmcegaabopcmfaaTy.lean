/- Facts on the types of the program: read off its tables. Printed by a program. -/
import Derived.Test.YtmcegaabopcmfaaRows
import Derived.Test.YtmcegaabopcmfaaAbsU
namespace Go.Proofs.Ytmcegaabopcmfaa

theorem mixed : Try.prog.follows .mixedOrders = true := by kernel_rfl
theorem tyS3 : tyS Try.prog 3 = some (false, 1) := by kernel_rfl
theorem tyS4 : tyS Try.prog 4 = some (false, 1) := by kernel_rfl
theorem tyS5 : tyS Try.prog 5 = some (false, 1) := by kernel_rfl
theorem tyS9 : tyS Try.prog 9 = some (false, 1) := by kernel_rfl
theorem tyS22 : tyS Try.prog 22 = some (false, 1) := by kernel_rfl
theorem tyS25 : tyS Try.prog 25 = some (true, 2) := by kernel_rfl
theorem tyS27 : tyS Try.prog 27 = some (true, 4) := by kernel_rfl
theorem tyS29 : tyS Try.prog 29 = some (false, 1) := by kernel_rfl
theorem tyS30 : tyS Try.prog 30 = some (false, 1) := by kernel_rfl
theorem tyS37 : tyS Try.prog 37 = some (true, 10) := by kernel_rfl
theorem tyS48 : tyS Try.prog 48 = some (false, 1) := by kernel_rfl
theorem tyS50 : tyS Try.prog 50 = some (true, 3) := by kernel_rfl
theorem tyS52 : tyS Try.prog 52 = some (true, 4) := by kernel_rfl
theorem tyS54 : tyS Try.prog 54 = some (true, 12) := by kernel_rfl
theorem tyS66 : tyS Try.prog 66 = some (true, 2) := by kernel_rfl
theorem tyS84 : tyS Try.prog 84 = some (true, 3) := by kernel_rfl
theorem tyS111 : tyS Try.prog 111 = some (true, 10) := by kernel_rfl
theorem tyS114 : tyS Try.prog 114 = some (true, 2) := by kernel_rfl
theorem tyS120 : tyS Try.prog 120 = some (true, 2) := by kernel_rfl
theorem tyS123 : tyS Try.prog 123 = some (true, 2) := by kernel_rfl
theorem tyS125 : tyS Try.prog 125 = some (true, 5) := by kernel_rfl
theorem tyS136 : tyS Try.prog 136 = some (true, 3) := by kernel_rfl
theorem tyS142 : tyS Try.prog 142 = some (true, 2) := by kernel_rfl
theorem tyS145 : tyS Try.prog 145 = some (false, 1) := by kernel_rfl
theorem tyS147 : tyS Try.prog 147 = some (true, 3) := by kernel_rfl
theorem tyS149 : tyS Try.prog 149 = some (false, 1) := by kernel_rfl
theorem tyS151 : tyS Try.prog 151 = some (true, 5) := by kernel_rfl
theorem tyS163 : tyS Try.prog 163 = some (true, 2) := by kernel_rfl
theorem tyS178 : tyS Try.prog 178 = some (true, 3) := by kernel_rfl
theorem tyS179 : tyS Try.prog 179 = some (false, 1) := by kernel_rfl
theorem tyS181 : tyS Try.prog 181 = some (true, 8) := by kernel_rfl
theorem tyS207 : tyS Try.prog 207 = some (false, 1) := by kernel_rfl
theorem tyS218 : tyS Try.prog 218 = some (false, 1) := by kernel_rfl
theorem tyS219 : tyS Try.prog 219 = some (false, 1) := by kernel_rfl
theorem tyS221 : tyS Try.prog 221 = some (true, 2) := by kernel_rfl
theorem tyP25 : tyP Try.prog 25 = some [(0, 1), (1, 1)] := by kernel_rfl
theorem tyP27 : tyP Try.prog 27 = some [(0, 1), (1, 1), (2, 1), (3, 1)] := by kernel_rfl
theorem tyP37 : tyP Try.prog 37 = some [(0, 4), (4, 1), (5, 1), (6, 1), (7, 1), (8, 1), (9, 1)] := by kernel_rfl
theorem tyP50 : tyP Try.prog 50 = some [(0, 1), (1, 1), (2, 1)] := by kernel_rfl
theorem tyP52 : tyP Try.prog 52 = some [(0, 1), (1, 1), (2, 1), (3, 1)] := by kernel_rfl
theorem tyP54 : tyP Try.prog 54 = some [(0, 1), (1, 1), (2, 1), (3, 1), (4, 1), (5, 3), (8, 4)] := by kernel_rfl
theorem tyP66 : tyP Try.prog 66 = some [(0, 1), (1, 1)] := by kernel_rfl
theorem tyP84 : tyP Try.prog 84 = some [(0, 1), (1, 1), (2, 1)] := by kernel_rfl
theorem tyP111 : tyP Try.prog 111 = some [(0, 4), (4, 1), (5, 1), (6, 1), (7, 1), (8, 1), (9, 1)] := by kernel_rfl
theorem tyP114 : tyP Try.prog 114 = some [(0, 1), (1, 1)] := by kernel_rfl
theorem tyP120 : tyP Try.prog 120 = some [(0, 1), (1, 1)] := by kernel_rfl
theorem tyP123 : tyP Try.prog 123 = some [(0, 1), (1, 1)] := by kernel_rfl
theorem tyP125 : tyP Try.prog 125 = some [(0, 1), (1, 2), (3, 1), (4, 1)] := by kernel_rfl
theorem tyP136 : tyP Try.prog 136 = some [(0, 1), (1, 1), (2, 1)] := by kernel_rfl
theorem tyP142 : tyP Try.prog 142 = some [(0, 1), (1, 1)] := by kernel_rfl
theorem tyP147 : tyP Try.prog 147 = some [(0, 1), (1, 1), (2, 1)] := by kernel_rfl
theorem tyP151 : tyP Try.prog 151 = some [(0, 4), (4, 1)] := by kernel_rfl
theorem tyP178 : tyP Try.prog 178 = some [(0, 1), (1, 1), (2, 1)] := by kernel_rfl
theorem tyP181 : tyP Try.prog 181 = some [(0, 1), (1, 4), (5, 1), (6, 1), (7, 1)] := by kernel_rfl
theorem tyP221 : tyP Try.prog 221 = some [(0, 1), (1, 1)] := by kernel_rfl
theorem tyZ3 : tyZ Try.prog 3 = some [.int .i64 0] := by kernel_rfl
theorem tyZ5 : tyZ Try.prog 5 = some [.int .u8 0] := by kernel_rfl
theorem tyZ9 : tyZ Try.prog 9 = some [.string ⟨#[]⟩] := by kernel_rfl
theorem tyZ22 : tyZ Try.prog 22 = some [.slice none 0 0] := by kernel_rfl
theorem tyZ25 : tyZ Try.prog 25 = some [.slice none 0 0, .int .i64 0] := by kernel_rfl
theorem tyZ27 : tyZ Try.prog 27 = some [.int .i64 0, .int .i64 0, .int .i64 0, .int .i64 0] := by kernel_rfl
theorem tyZ30 : tyZ Try.prog 30 = some [.int .i64 0] := by kernel_rfl
theorem tyZ37 : tyZ Try.prog 37 = some [.int .i64 0, .int .i64 0, .int .i64 0, .int .i64 0, .bool false, .int .i64 0, .slice none 0 0, .int .i64 0, .int .i64 0, .int .i64 0] := by kernel_rfl
theorem tyZ50 : tyZ Try.prog 50 = some [.int .i64 0, .int .i64 0, .int .i64 0] := by kernel_rfl
theorem tyZ52 : tyZ Try.prog 52 = some [.int .i64 0, .int .i64 0, .int .i64 0, .int .i64 0] := by kernel_rfl
theorem tyZ54 : tyZ Try.prog 54 = some [.slice none 0 0, .int .i64 0, .int .i64 0, .int .i64 0, .int .i64 0, .int .i64 0, .int .i64 0, .int .i64 0, .int .i64 0, .int .i64 0, .int .i64 0, .int .i64 0] := by kernel_rfl
theorem tyZ66 : tyZ Try.prog 66 = some [.int .i64 0, .int .i64 0] := by kernel_rfl
theorem tyZ84 : tyZ Try.prog 84 = some [.int .i64 0, .string ⟨#[]⟩, .bool false] := by kernel_rfl
theorem tyZ111 : tyZ Try.prog 111 = some [.int .i64 0, .int .i64 0, .int .i64 0, .int .i64 0, .int .i64 0, .int .i64 0, .int .i64 0, .slice none 0 0, .int .i64 0, .int .i64 0] := by kernel_rfl
theorem tyZ114 : tyZ Try.prog 114 = some [.string ⟨#[]⟩, .int .i64 0] := by kernel_rfl
theorem tyZ120 : tyZ Try.prog 120 = some [.string ⟨#[]⟩, .int .i64 0] := by kernel_rfl
theorem tyZ123 : tyZ Try.prog 123 = some [.int .i64 0, .int .i64 0] := by kernel_rfl
theorem tyZ125 : tyZ Try.prog 125 = some [.string ⟨#[]⟩, .int .i64 0, .int .i64 0, .int .i64 0, .int .i64 0] := by kernel_rfl
theorem tyZ136 : tyZ Try.prog 136 = some [.int .i64 0, .string ⟨#[]⟩, .bool false] := by kernel_rfl
theorem tyZ142 : tyZ Try.prog 142 = some [.bool false, .int .i64 0] := by kernel_rfl
theorem tyZ145 : tyZ Try.prog 145 = some [.pointer none] := by kernel_rfl
theorem tyZ147 : tyZ Try.prog 147 = some [.int .i64 0, .string ⟨#[]⟩, .int .i64 0] := by kernel_rfl
theorem tyZ151 : tyZ Try.prog 151 = some [.int .i64 0, .int .i64 0, .int .i64 0, .int .i64 0, .slice none 0 0] := by kernel_rfl
theorem tyZ163 : tyZ Try.prog 163 = some [.slice none 0 0, .slice none 0 0] := by kernel_rfl
theorem tyZ178 : tyZ Try.prog 178 = some [.int .i64 0, .int .i64 0, .int .i64 0] := by kernel_rfl
theorem tyZ179 : tyZ Try.prog 179 = some [.map none] := by kernel_rfl
theorem tyZ181 : tyZ Try.prog 181 = some [.slice none 0 0, .int .i64 0, .int .i64 0, .int .i64 0, .int .i64 0, .map none, .map none, .map none] := by kernel_rfl
theorem tyZ207 : tyZ Try.prog 207 = some [.int .u64 0] := by kernel_rfl
theorem tyZ221 : tyZ Try.prog 221 = some [.pointer none, .slice none 0 0] := by kernel_rfl
theorem tyF25_0 : tyF Try.prog 25 0 = some (0, 22) := by kernel_rfl
theorem tyF25_1 : tyF Try.prog 25 1 = some (1, 3) := by kernel_rfl
theorem tyF27_0 : tyF Try.prog 27 0 = some (0, 3) := by kernel_rfl
theorem tyF27_1 : tyF Try.prog 27 1 = some (1, 3) := by kernel_rfl
theorem tyF27_2 : tyF Try.prog 27 2 = some (2, 3) := by kernel_rfl
theorem tyF27_3 : tyF Try.prog 27 3 = some (3, 3) := by kernel_rfl
theorem tyF37_0 : tyF Try.prog 37 0 = some (0, 27) := by kernel_rfl
theorem tyF37_1 : tyF Try.prog 37 1 = some (4, 4) := by kernel_rfl
theorem tyF37_2 : tyF Try.prog 37 2 = some (5, 3) := by kernel_rfl
theorem tyF37_3 : tyF Try.prog 37 3 = some (6, 22) := by kernel_rfl
theorem tyF37_4 : tyF Try.prog 37 4 = some (7, 3) := by kernel_rfl
theorem tyF37_5 : tyF Try.prog 37 5 = some (8, 3) := by kernel_rfl
theorem tyF37_6 : tyF Try.prog 37 6 = some (9, 3) := by kernel_rfl
theorem tyF50_0 : tyF Try.prog 50 0 = some (0, 3) := by kernel_rfl
theorem tyF50_1 : tyF Try.prog 50 1 = some (1, 3) := by kernel_rfl
theorem tyF50_2 : tyF Try.prog 50 2 = some (2, 3) := by kernel_rfl
theorem tyF52_0 : tyF Try.prog 52 0 = some (0, 3) := by kernel_rfl
theorem tyF52_1 : tyF Try.prog 52 1 = some (1, 3) := by kernel_rfl
theorem tyF52_2 : tyF Try.prog 52 2 = some (2, 3) := by kernel_rfl
theorem tyF52_3 : tyF Try.prog 52 3 = some (3, 3) := by kernel_rfl
theorem tyF54_0 : tyF Try.prog 54 0 = some (0, 48) := by kernel_rfl
theorem tyF54_1 : tyF Try.prog 54 1 = some (1, 3) := by kernel_rfl
theorem tyF54_2 : tyF Try.prog 54 2 = some (2, 3) := by kernel_rfl
theorem tyF54_3 : tyF Try.prog 54 3 = some (3, 3) := by kernel_rfl
theorem tyF54_4 : tyF Try.prog 54 4 = some (4, 3) := by kernel_rfl
theorem tyF54_5 : tyF Try.prog 54 5 = some (5, 50) := by kernel_rfl
theorem tyF54_6 : tyF Try.prog 54 6 = some (8, 52) := by kernel_rfl
theorem tyF66_0 : tyF Try.prog 66 0 = some (0, 3) := by kernel_rfl
theorem tyF66_1 : tyF Try.prog 66 1 = some (1, 3) := by kernel_rfl
theorem tyF84_0 : tyF Try.prog 84 0 = some (0, 3) := by kernel_rfl
theorem tyF84_1 : tyF Try.prog 84 1 = some (1, 9) := by kernel_rfl
theorem tyF84_2 : tyF Try.prog 84 2 = some (2, 4) := by kernel_rfl
theorem tyF111_0 : tyF Try.prog 111 0 = some (0, 27) := by kernel_rfl
theorem tyF111_1 : tyF Try.prog 111 1 = some (4, 3) := by kernel_rfl
theorem tyF111_2 : tyF Try.prog 111 2 = some (5, 3) := by kernel_rfl
theorem tyF111_3 : tyF Try.prog 111 3 = some (6, 3) := by kernel_rfl
theorem tyF111_4 : tyF Try.prog 111 4 = some (7, 22) := by kernel_rfl
theorem tyF111_5 : tyF Try.prog 111 5 = some (8, 3) := by kernel_rfl
theorem tyF111_6 : tyF Try.prog 111 6 = some (9, 3) := by kernel_rfl
theorem tyF114_0 : tyF Try.prog 114 0 = some (0, 9) := by kernel_rfl
theorem tyF114_1 : tyF Try.prog 114 1 = some (1, 3) := by kernel_rfl
theorem tyF120_0 : tyF Try.prog 120 0 = some (0, 9) := by kernel_rfl
theorem tyF120_1 : tyF Try.prog 120 1 = some (1, 3) := by kernel_rfl
theorem tyF123_0 : tyF Try.prog 123 0 = some (0, 3) := by kernel_rfl
theorem tyF123_1 : tyF Try.prog 123 1 = some (1, 3) := by kernel_rfl
theorem tyF125_0 : tyF Try.prog 125 0 = some (0, 9) := by kernel_rfl
theorem tyF125_1 : tyF Try.prog 125 1 = some (1, 123) := by kernel_rfl
theorem tyF125_2 : tyF Try.prog 125 2 = some (3, 3) := by kernel_rfl
theorem tyF125_3 : tyF Try.prog 125 3 = some (4, 3) := by kernel_rfl
theorem tyF136_0 : tyF Try.prog 136 0 = some (0, 3) := by kernel_rfl
theorem tyF136_1 : tyF Try.prog 136 1 = some (1, 9) := by kernel_rfl
theorem tyF136_2 : tyF Try.prog 136 2 = some (2, 4) := by kernel_rfl
theorem tyF142_0 : tyF Try.prog 142 0 = some (0, 4) := by kernel_rfl
theorem tyF142_1 : tyF Try.prog 142 1 = some (1, 3) := by kernel_rfl
theorem tyF147_0 : tyF Try.prog 147 0 = some (0, 3) := by kernel_rfl
theorem tyF147_1 : tyF Try.prog 147 1 = some (1, 9) := by kernel_rfl
theorem tyF147_2 : tyF Try.prog 147 2 = some (2, 3) := by kernel_rfl
theorem tyF151_0 : tyF Try.prog 151 0 = some (0, 52) := by kernel_rfl
theorem tyF151_1 : tyF Try.prog 151 1 = some (4, 149) := by kernel_rfl
theorem tyF178_0 : tyF Try.prog 178 0 = some (0, 3) := by kernel_rfl
theorem tyF178_1 : tyF Try.prog 178 1 = some (1, 3) := by kernel_rfl
theorem tyF178_2 : tyF Try.prog 178 2 = some (2, 3) := by kernel_rfl
theorem tyF181_0 : tyF Try.prog 181 0 = some (0, 48) := by kernel_rfl
theorem tyF181_1 : tyF Try.prog 181 1 = some (1, 52) := by kernel_rfl
theorem tyF181_2 : tyF Try.prog 181 2 = some (5, 179) := by kernel_rfl
theorem tyF181_3 : tyF Try.prog 181 3 = some (6, 179) := by kernel_rfl
theorem tyF181_4 : tyF Try.prog 181 4 = some (7, 179) := by kernel_rfl
theorem tyF221_0 : tyF Try.prog 221 0 = some (0, 218) := by kernel_rfl
theorem tyF221_1 : tyF Try.prog 221 1 = some (1, 219) := by kernel_rfl
theorem tyE22 : tyE Try.prog 22 = some (3, 1) := by kernel_rfl
theorem tyL22 : Elem Try.prog 22 3 1 8 := Elem.mk (z := .int .i64 0) (by kernel_rfl) (by kernel_rfl) rfl (by decide)
theorem tyE48 : tyE Try.prog 48 = some (114, 2) := by kernel_rfl
theorem tyL48 : Elem Try.prog 48 114 2 24 := Elem.mk (z := .agg #[.string ⟨#[]⟩, .int .i64 0]) (by kernel_rfl) (by kernel_rfl) rfl (by decide)
theorem tyE56 : tyE Try.prog 56 = some (120, 2) := by kernel_rfl
theorem tyL56 : Elem Try.prog 56 120 2 24 := Elem.mk (z := .agg #[.string ⟨#[]⟩, .int .i64 0]) (by kernel_rfl) (by kernel_rfl) rfl (by decide)
theorem tyE58 : tyE Try.prog 58 = some (125, 5) := by kernel_rfl
theorem tyL58 : Elem Try.prog 58 125 5 48 := Elem.mk (z := .agg #[.string ⟨#[]⟩, .int .i64 0, .int .i64 0, .int .i64 0, .int .i64 0]) (by kernel_rfl) (by kernel_rfl) rfl (by decide)
theorem tyE68 : tyE Try.prog 68 = some (136, 3) := by kernel_rfl
theorem tyL68 : Elem Try.prog 68 136 3 32 := Elem.mk (z := .agg #[.int .i64 0, .string ⟨#[]⟩, .bool false]) (by kernel_rfl) (by kernel_rfl) rfl (by decide)
theorem tyE70 : tyE Try.prog 70 = some (84, 3) := by kernel_rfl
theorem tyL70 : Elem Try.prog 70 84 3 32 := Elem.mk (z := .agg #[.int .i64 0, .string ⟨#[]⟩, .bool false]) (by kernel_rfl) (by kernel_rfl) rfl (by decide)
theorem tyE73 : tyE Try.prog 73 = some (9, 1) := by kernel_rfl
theorem tyL73 : Elem Try.prog 73 9 1 16 := Elem.mk (z := .string ⟨#[]⟩) (by kernel_rfl) (by kernel_rfl) rfl (by decide)
theorem tyE87 : tyE Try.prog 87 = some (147, 3) := by kernel_rfl
theorem tyL87 : Elem Try.prog 87 147 3 32 := Elem.mk (z := .agg #[.int .i64 0, .string ⟨#[]⟩, .int .i64 0]) (by kernel_rfl) (by kernel_rfl) rfl (by decide)
theorem tyE138 : tyE Try.prog 138 = some (142, 2) := by kernel_rfl
theorem tyL138 : Elem Try.prog 138 142 2 16 := Elem.mk (z := .agg #[.bool false, .int .i64 0]) (by kernel_rfl) (by kernel_rfl) rfl (by decide)
theorem tyE143 : tyE Try.prog 143 = some (30, 1) := by kernel_rfl
theorem tyL143 : Elem Try.prog 143 30 1 8 := Elem.mk (z := .int .i64 0) (by kernel_rfl) (by kernel_rfl) rfl (by decide)
theorem tyE144 : tyE Try.prog 144 = some (145, 1) := by kernel_rfl
theorem tyL144 : Elem Try.prog 144 145 1 8 := Elem.mk (z := .pointer none) (by kernel_rfl) (by kernel_rfl) rfl (by decide)
theorem tyE149 : tyE Try.prog 149 = some (178, 3) := by kernel_rfl
theorem tyL149 : Elem Try.prog 149 178 3 24 := Elem.mk (z := .agg #[.int .i64 0, .int .i64 0, .int .i64 0]) (by kernel_rfl) (by kernel_rfl) rfl (by decide)
theorem tyE160 : tyE Try.prog 160 = some (22, 1) := by kernel_rfl
theorem tyL160 : Elem Try.prog 160 22 1 24 := Elem.mk (z := .slice none 0 0) (by kernel_rfl) (by kernel_rfl) rfl (by decide)
theorem tyE219 : tyE Try.prog 219 = some (5, 1) := by kernel_rfl
theorem tyL219 : Elem Try.prog 219 5 1 1 := Elem.mk (z := .int .u8 0) (by kernel_rfl) (by kernel_rfl) rfl (by decide)
theorem tyU3 : Try.prog.underlying 3 = some (.int .i64) := by kernel_rfl
theorem tyU4 : Try.prog.underlying 4 = some .bool := by kernel_rfl
theorem tyU5 : Try.prog.underlying 5 = some (.int .u8) := by kernel_rfl
theorem tyU9 : Try.prog.underlying 9 = some .string := by kernel_rfl
theorem tyU21 : Try.prog.underlying 21 = some (.int .i32) := by kernel_rfl
theorem tyU22 : Try.prog.underlying 22 = some (.slice 3) := by kernel_rfl
theorem tyU23 : Try.prog.underlying 23 = some (.pointer 25) := by kernel_rfl
theorem tyU29 : Try.prog.underlying 29 = some (.pointer 111) := by kernel_rfl
theorem tyU30 : Try.prog.underlying 30 = some (.int .i64) := by kernel_rfl
theorem tyU35 : Try.prog.underlying 35 = some (.pointer 37) := by kernel_rfl
theorem tyU48 : Try.prog.underlying 48 = some (.slice 114) := by kernel_rfl
theorem tyU56 : Try.prog.underlying 56 = some (.slice 120) := by kernel_rfl
theorem tyU58 : Try.prog.underlying 58 = some (.slice 125) := by kernel_rfl
theorem tyU68 : Try.prog.underlying 68 = some (.slice 136) := by kernel_rfl
theorem tyU70 : Try.prog.underlying 70 = some (.slice 84) := by kernel_rfl
theorem tyU73 : Try.prog.underlying 73 = some (.slice 9) := by kernel_rfl
theorem tyU87 : Try.prog.underlying 87 = some (.slice 147) := by kernel_rfl
theorem tyM128 : tyMB Try.prog 128 9 4 := ⟨by kernel_rfl, by kernel_rfl, by kernel_rfl, fun w => by kernel_rfl⟩
theorem tyU138 : Try.prog.underlying 138 = some (.slice 142) := by kernel_rfl
theorem tyU143 : Try.prog.underlying 143 = some (.slice 30) := by kernel_rfl
theorem tyU144 : Try.prog.underlying 144 = some (.slice 145) := by kernel_rfl
theorem tyU145 : Try.prog.underlying 145 = some (.pointer 84) := by kernel_rfl
theorem tyU148 : Try.prog.underlying 148 = some (.pointer 151) := by kernel_rfl
theorem tyU149 : Try.prog.underlying 149 = some (.slice 178) := by kernel_rfl
theorem tyU154 : Try.prog.underlying 154 = some (.pointer 181) := by kernel_rfl
theorem tyU160 : Try.prog.underlying 160 = some (.slice 22) := by kernel_rfl
theorem tyU163 : Try.prog.underlying 163 = some (.array 2 48) := by kernel_rfl
theorem tyM179 : tyMI Try.prog 179 9 3 := ⟨by kernel_rfl, by kernel_rfl, by kernel_rfl, fun w => by kernel_rfl⟩
theorem tyU184 : Try.prog.underlying 184 = some (.int .u64) := by kernel_rfl
theorem tyU185 : Try.prog.underlying 185 = some (.int .u64) := by kernel_rfl
theorem tyU195 : Try.prog.underlying 195 = some (.int .i64) := by kernel_rfl
theorem tyU202 : Try.prog.underlying 202 = some (.int .u32) := by kernel_rfl
theorem tyU207 : Try.prog.underlying 207 = some (.int .u64) := by kernel_rfl
theorem tyU211 : Try.prog.underlying 211 = some (.pointer 3) := by kernel_rfl
theorem tyU218 : Try.prog.underlying 218 = some (.pointer 221) := by kernel_rfl
theorem tyU219 : Try.prog.underlying 219 = some (.slice 5) := by kernel_rfl
theorem tyU233 : Try.prog.underlying 233 = some (.pointer 5) := by kernel_rfl
theorem tyQ84 : tyQ Try.prog 84 = some [.int .i64, .string, .bool] := by kernel_rfl
end Go.Proofs.Ytmcegaabopcmfaa
