/- Facts on the types of the program: read off its tables. Printed by a program. -/
import Derived.Test.YtbejggfkfaibeaaGreatDoorRows
import Derived.Test.YtbejggfkfaibeaaGreatDoorMb
namespace Go.Proofs.YtbejggfkfaibeaaGreatDoor

theorem mixed : Tryz.prog.follows .mixedOrders = true := by kernel_rfl
theorem tyS3 : tyS Tryz.prog 3 = some (false, 1) := by kernel_rfl
theorem tyS4 : tyS Tryz.prog 4 = some (false, 1) := by kernel_rfl
theorem tyS5 : tyS Tryz.prog 5 = some (false, 1) := by kernel_rfl
theorem tyS9 : tyS Tryz.prog 9 = some (false, 1) := by kernel_rfl
theorem tyS21 : tyS Tryz.prog 21 = some (false, 1) := by kernel_rfl
theorem tyS22 : tyS Tryz.prog 22 = some (false, 1) := by kernel_rfl
theorem tyS25 : tyS Tryz.prog 25 = some (true, 2) := by kernel_rfl
theorem tyS26 : tyS Tryz.prog 26 = some (false, 1) := by kernel_rfl
theorem tyS29 : tyS Tryz.prog 29 = some (true, 8) := by kernel_rfl
theorem tyS32 : tyS Tryz.prog 32 = some (true, 3) := by kernel_rfl
theorem tyS34 : tyS Tryz.prog 34 = some (false, 1) := by kernel_rfl
theorem tyS41 : tyS Tryz.prog 41 = some (false, 1) := by kernel_rfl
theorem tyS46 : tyS Tryz.prog 46 = some (false, 1) := by kernel_rfl
theorem tyS55 : tyS Tryz.prog 55 = some (true, 7) := by kernel_rfl
theorem tyS57 : tyS Tryz.prog 57 = some (false, 1) := by kernel_rfl
theorem tyS67 : tyS Tryz.prog 67 = some (true, 2) := by kernel_rfl
theorem tyS80 : tyS Tryz.prog 80 = some (true, 2) := by kernel_rfl
theorem tyS101 : tyS Tryz.prog 101 = some (true, 2) := by kernel_rfl
theorem tyS108 : tyS Tryz.prog 108 = some (false, 1) := by kernel_rfl
theorem tyS110 : tyS Tryz.prog 110 = some (true, 2) := by kernel_rfl
theorem tyS112 : tyS Tryz.prog 112 = some (false, 1) := by kernel_rfl
theorem tyS123 : tyS Tryz.prog 123 = some (true, 3) := by kernel_rfl
theorem tyS127 : tyS Tryz.prog 127 = some (true, 3) := by kernel_rfl
theorem tyS134 : tyS Tryz.prog 134 = some (true, 1) := by kernel_rfl
theorem tyS159 : tyS Tryz.prog 159 = some (true, 256) := by kernel_rfl
theorem tyS166 : tyS Tryz.prog 166 = some (false, 1) := by kernel_rfl
theorem tyS182 : tyS Tryz.prog 182 = some (false, 1) := by kernel_rfl
theorem tyS201 : tyS Tryz.prog 201 = some (true, 1) := by kernel_rfl
theorem tyS203 : tyS Tryz.prog 203 = some (true, 2) := by kernel_rfl
theorem tyS205 : tyS Tryz.prog 205 = some (true, 2) := by kernel_rfl
theorem tyS207 : tyS Tryz.prog 207 = some (true, 3) := by kernel_rfl
theorem tyS209 : tyS Tryz.prog 209 = some (false, 1) := by kernel_rfl
theorem tyS211 : tyS Tryz.prog 211 = some (true, 5) := by kernel_rfl
theorem tyS213 : tyS Tryz.prog 213 = some (true, 24) := by kernel_rfl
theorem tyS227 : tyS Tryz.prog 227 = some (false, 1) := by kernel_rfl
theorem tyS234 : tyS Tryz.prog 234 = some (true, 65) := by kernel_rfl
theorem tyS237 : tyS Tryz.prog 237 = some (true, 3) := by kernel_rfl
theorem tyS241 : tyS Tryz.prog 241 = some (true, 256) := by kernel_rfl
theorem tyS243 : tyS Tryz.prog 243 = some (true, 2) := by kernel_rfl
theorem tyS248 : tyS Tryz.prog 248 = some (false, 1) := by kernel_rfl
theorem tyS250 : tyS Tryz.prog 250 = some (false, 1) := by kernel_rfl
theorem tyS252 : tyS Tryz.prog 252 = some (true, 2) := by kernel_rfl
theorem tyS261 : tyS Tryz.prog 261 = some (true, 256) := by kernel_rfl
theorem tyS263 : tyS Tryz.prog 263 = some (true, 256) := by kernel_rfl
theorem tyS265 : tyS Tryz.prog 265 = some (true, 257) := by kernel_rfl
theorem tyS270 : tyS Tryz.prog 270 = some (true, 1) := by kernel_rfl
theorem tyS272 : tyS Tryz.prog 272 = some (true, 3) := by kernel_rfl
theorem tyS274 : tyS Tryz.prog 274 = some (true, 5) := by kernel_rfl
theorem tyS278 : tyS Tryz.prog 278 = some (false, 1) := by kernel_rfl
theorem tyS281 : tyS Tryz.prog 281 = some (true, 2) := by kernel_rfl
theorem tyS282 : tyS Tryz.prog 282 = some (false, 1) := by kernel_rfl
theorem tyS283 : tyS Tryz.prog 283 = some (false, 1) := by kernel_rfl
theorem tyS285 : tyS Tryz.prog 285 = some (true, 5) := by kernel_rfl
theorem tyS287 : tyS Tryz.prog 287 = some (true, 262) := by kernel_rfl
theorem tyS297 : tyS Tryz.prog 297 = some (true, 256) := by kernel_rfl
theorem tyS299 : tyS Tryz.prog 299 = some (true, 258) := by kernel_rfl
theorem tyS316 : tyS Tryz.prog 316 = some (false, 1) := by kernel_rfl
theorem tyS319 : tyS Tryz.prog 319 = some (false, 1) := by kernel_rfl
theorem tyS327 : tyS Tryz.prog 327 = some (true, 1) := by kernel_rfl
theorem tyP25 : tyP Tryz.prog 25 = some [(0, 1), (1, 1)] := by kernel_rfl
theorem tyP29 : tyP Tryz.prog 29 = some [(0, 1), (1, 1), (2, 1), (3, 1), (4, 1), (5, 1), (6, 1), (7, 1)] := by kernel_rfl
theorem tyP32 : tyP Tryz.prog 32 = some [(0, 1), (1, 1), (2, 1)] := by kernel_rfl
theorem tyP55 : tyP Tryz.prog 55 = some [(0, 1), (1, 1), (2, 1), (3, 1), (4, 1), (5, 1), (6, 1)] := by kernel_rfl
theorem tyP67 : tyP Tryz.prog 67 = some [(0, 1), (1, 1)] := by kernel_rfl
theorem tyP80 : tyP Tryz.prog 80 = some [(0, 1), (1, 1)] := by kernel_rfl
theorem tyP101 : tyP Tryz.prog 101 = some [(0, 1), (1, 1)] := by kernel_rfl
theorem tyP110 : tyP Tryz.prog 110 = some [(0, 1), (1, 1)] := by kernel_rfl
theorem tyP123 : tyP Tryz.prog 123 = some [(0, 1), (1, 1), (2, 1)] := by kernel_rfl
theorem tyP127 : tyP Tryz.prog 127 = some [(0, 1), (1, 1), (2, 1)] := by kernel_rfl
theorem tyP134 : tyP Tryz.prog 134 = some [(0, 1)] := by kernel_rfl
theorem tyP201 : tyP Tryz.prog 201 = some [(0, 0), (0, 1)] := by kernel_rfl
theorem tyP203 : tyP Tryz.prog 203 = some [(0, 1), (1, 1)] := by kernel_rfl
theorem tyP205 : tyP Tryz.prog 205 = some [(0, 0), (0, 2)] := by kernel_rfl
theorem tyP207 : tyP Tryz.prog 207 = some [(0, 0), (0, 1), (1, 2)] := by kernel_rfl
theorem tyP211 : tyP Tryz.prog 211 = some [(0, 3), (3, 1), (4, 1)] := by kernel_rfl
theorem tyP237 : tyP Tryz.prog 237 = some [(0, 1), (1, 1), (2, 1)] := by kernel_rfl
theorem tyP243 : tyP Tryz.prog 243 = some [(0, 1), (1, 1)] := by kernel_rfl
theorem tyP252 : tyP Tryz.prog 252 = some [(0, 1), (1, 1)] := by kernel_rfl
theorem tyP265 : tyP Tryz.prog 265 = some [(0, 256), (256, 1)] := by kernel_rfl
theorem tyP270 : tyP Tryz.prog 270 = some [(0, 1)] := by kernel_rfl
theorem tyP274 : tyP Tryz.prog 274 = some [(0, 1), (1, 1), (2, 3)] := by kernel_rfl
theorem tyP281 : tyP Tryz.prog 281 = some [(0, 1), (1, 1)] := by kernel_rfl
theorem tyP285 : tyP Tryz.prog 285 = some [(0, 1), (1, 1), (2, 1), (3, 1), (4, 1)] := by kernel_rfl
theorem tyP287 : tyP Tryz.prog 287 = some [(0, 5), (5, 1), (6, 256)] := by kernel_rfl
theorem tyP299 : tyP Tryz.prog 299 = some [(0, 1), (1, 256), (257, 1)] := by kernel_rfl
theorem tyP327 : tyP Tryz.prog 327 = some [(0, 1)] := by kernel_rfl
theorem tyZ3 : tyZ Tryz.prog 3 = some [.int .i64 0] := by kernel_rfl
theorem tyZ4 : tyZ Tryz.prog 4 = some [.bool false] := by kernel_rfl
theorem tyZ5 : tyZ Tryz.prog 5 = some [.int .u8 0] := by kernel_rfl
theorem tyZ9 : tyZ Tryz.prog 9 = some [.string ⟨#[]⟩] := by kernel_rfl
theorem tyZ25 : tyZ Tryz.prog 25 = some [.slice none 0 0, .int .i64 0] := by kernel_rfl
theorem tyZ29 : tyZ Tryz.prog 29 = some [.int .i64 0, .string ⟨#[]⟩, .string ⟨#[]⟩, .string ⟨#[]⟩, .string ⟨#[]⟩, .string ⟨#[]⟩, .slice none 0 0, .string ⟨#[]⟩] := by kernel_rfl
theorem tyZ32 : tyZ Tryz.prog 32 = some [.int .i64 0, .slice none 0 0, .string ⟨#[]⟩] := by kernel_rfl
theorem tyZ34 : tyZ Tryz.prog 34 = some [.int .i64 0] := by kernel_rfl
theorem tyZ41 : tyZ Tryz.prog 41 = some [.slice none 0 0] := by kernel_rfl
theorem tyZ55 : tyZ Tryz.prog 55 = some [.string ⟨#[]⟩, .string ⟨#[]⟩, .string ⟨#[]⟩, .string ⟨#[]⟩, .int .i64 0, .bool false, .bool false] := by kernel_rfl
theorem tyZ67 : tyZ Tryz.prog 67 = some [.string ⟨#[]⟩, .string ⟨#[]⟩] := by kernel_rfl
theorem tyZ80 : tyZ Tryz.prog 80 = some [.string ⟨#[]⟩, .string ⟨#[]⟩] := by kernel_rfl
theorem tyZ101 : tyZ Tryz.prog 101 = some [.int .u8 0, .bool false] := by kernel_rfl
theorem tyZ110 : tyZ Tryz.prog 110 = some [.pointer none, .slice none 0 0] := by kernel_rfl
theorem tyZ123 : tyZ Tryz.prog 123 = some [.string ⟨#[]⟩, .slice none 0 0, .int .i64 0] := by kernel_rfl
theorem tyZ127 : tyZ Tryz.prog 127 = some [.string ⟨#[]⟩, .int .i64 0, .bool false] := by kernel_rfl
theorem tyZ134 : tyZ Tryz.prog 134 = some [.string ⟨#[]⟩] := by kernel_rfl
theorem tyZ211 : tyZ Tryz.prog 211 = some [.int .u32 0, .int .i32 0, .int .u32 0, .nilIface, .slice none 0 0] := by kernel_rfl
theorem tyZ213 : tyZ Tryz.prog 213 = some [.int .u8 0, .int .u8 0, .int .u8 0, .int .u8 0, .int .u8 0, .int .u8 0, .int .u8 0, .int .u8 0, .int .u8 0, .int .u8 0, .int .u8 0, .int .u8 0, .int .u8 0, .int .u8 0, .int .u8 0, .int .u8 0, .int .u8 0, .int .u8 0, .int .u8 0, .int .u8 0, .int .u8 0, .int .u8 0, .int .u8 0, .int .u8 0] := by kernel_rfl
theorem tyZ237 : tyZ Tryz.prog 237 = some [.string ⟨#[]⟩, .string ⟨#[]⟩, .nilIface] := by kernel_rfl
theorem tyZ243 : tyZ Tryz.prog 243 = some [.int .u8 0, .int .u8 0] := by kernel_rfl
theorem tyZ252 : tyZ Tryz.prog 252 = some [.int .u16 0, .int .u16 0] := by kernel_rfl
theorem tyZ270 : tyZ Tryz.prog 270 = some [.string ⟨#[]⟩] := by kernel_rfl
theorem tyZ274 : tyZ Tryz.prog 274 = some [.int .u32 0, .int .u32 0, .int .i32 0, .int .i32 0, .int .i32 0] := by kernel_rfl
theorem tyZ281 : tyZ Tryz.prog 281 = some [.pointer none, .string ⟨#[]⟩] := by kernel_rfl
theorem tyZ282 : tyZ Tryz.prog 282 = some [.pointer none] := by kernel_rfl
theorem tyZ285 : tyZ Tryz.prog 285 = some [.string ⟨#[]⟩, .int .i64 0, .string ⟨#[]⟩, .pointer none, .slice none 0 0] := by kernel_rfl
theorem tyZ316 : tyZ Tryz.prog 316 = some [.slice none 0 0] := by kernel_rfl
theorem tyZ327 : tyZ Tryz.prog 327 = some [.nilIface] := by kernel_rfl
theorem tyF25_0 : tyF Tryz.prog 25 0 = some (0, 22) := by kernel_rfl
theorem tyF25_1 : tyF Tryz.prog 25 1 = some (1, 3) := by kernel_rfl
theorem tyF29_0 : tyF Tryz.prog 29 0 = some (0, 3) := by kernel_rfl
theorem tyF29_1 : tyF Tryz.prog 29 1 = some (1, 9) := by kernel_rfl
theorem tyF29_2 : tyF Tryz.prog 29 2 = some (2, 9) := by kernel_rfl
theorem tyF29_3 : tyF Tryz.prog 29 3 = some (3, 9) := by kernel_rfl
theorem tyF29_4 : tyF Tryz.prog 29 4 = some (4, 9) := by kernel_rfl
theorem tyF29_5 : tyF Tryz.prog 29 5 = some (5, 9) := by kernel_rfl
theorem tyF29_6 : tyF Tryz.prog 29 6 = some (6, 26) := by kernel_rfl
theorem tyF29_7 : tyF Tryz.prog 29 7 = some (7, 9) := by kernel_rfl
theorem tyF32_0 : tyF Tryz.prog 32 0 = some (0, 3) := by kernel_rfl
theorem tyF32_1 : tyF Tryz.prog 32 1 = some (1, 26) := by kernel_rfl
theorem tyF32_2 : tyF Tryz.prog 32 2 = some (2, 9) := by kernel_rfl
theorem tyF55_0 : tyF Tryz.prog 55 0 = some (0, 9) := by kernel_rfl
theorem tyF55_1 : tyF Tryz.prog 55 1 = some (1, 9) := by kernel_rfl
theorem tyF55_2 : tyF Tryz.prog 55 2 = some (2, 9) := by kernel_rfl
theorem tyF55_3 : tyF Tryz.prog 55 3 = some (3, 9) := by kernel_rfl
theorem tyF55_4 : tyF Tryz.prog 55 4 = some (4, 3) := by kernel_rfl
theorem tyF55_5 : tyF Tryz.prog 55 5 = some (5, 4) := by kernel_rfl
theorem tyF55_6 : tyF Tryz.prog 55 6 = some (6, 4) := by kernel_rfl
theorem tyF67_0 : tyF Tryz.prog 67 0 = some (0, 9) := by kernel_rfl
theorem tyF67_1 : tyF Tryz.prog 67 1 = some (1, 9) := by kernel_rfl
theorem tyF80_0 : tyF Tryz.prog 80 0 = some (0, 9) := by kernel_rfl
theorem tyF80_1 : tyF Tryz.prog 80 1 = some (1, 9) := by kernel_rfl
theorem tyF101_0 : tyF Tryz.prog 101 0 = some (0, 5) := by kernel_rfl
theorem tyF101_1 : tyF Tryz.prog 101 1 = some (1, 4) := by kernel_rfl
theorem tyF110_0 : tyF Tryz.prog 110 0 = some (0, 108) := by kernel_rfl
theorem tyF110_1 : tyF Tryz.prog 110 1 = some (1, 46) := by kernel_rfl
theorem tyF123_0 : tyF Tryz.prog 123 0 = some (0, 9) := by kernel_rfl
theorem tyF123_1 : tyF Tryz.prog 123 1 = some (1, 57) := by kernel_rfl
theorem tyF123_2 : tyF Tryz.prog 123 2 = some (2, 3) := by kernel_rfl
theorem tyF127_0 : tyF Tryz.prog 127 0 = some (0, 9) := by kernel_rfl
theorem tyF127_1 : tyF Tryz.prog 127 1 = some (1, 3) := by kernel_rfl
theorem tyF127_2 : tyF Tryz.prog 127 2 = some (2, 4) := by kernel_rfl
theorem tyF134_0 : tyF Tryz.prog 134 0 = some (0, 9) := by kernel_rfl
theorem tyF201_1 : tyF Tryz.prog 201 1 = some (0, 182) := by kernel_rfl
theorem tyF203_0 : tyF Tryz.prog 203 0 = some (0, 21) := by kernel_rfl
theorem tyF203_1 : tyF Tryz.prog 203 1 = some (1, 182) := by kernel_rfl
theorem tyF205_1 : tyF Tryz.prog 205 1 = some (0, 203) := by kernel_rfl
theorem tyF207_1 : tyF Tryz.prog 207 1 = some (0, 201) := by kernel_rfl
theorem tyF207_2 : tyF Tryz.prog 207 2 = some (1, 205) := by kernel_rfl
theorem tyF211_0 : tyF Tryz.prog 211 0 = some (0, 207) := by kernel_rfl
theorem tyF211_1 : tyF Tryz.prog 211 1 = some (3, 209) := by kernel_rfl
theorem tyF211_2 : tyF Tryz.prog 211 2 = some (4, 41) := by kernel_rfl
theorem tyF243_0 : tyF Tryz.prog 243 0 = some (0, 5) := by kernel_rfl
theorem tyF243_1 : tyF Tryz.prog 243 1 = some (1, 5) := by kernel_rfl
theorem tyF252_0 : tyF Tryz.prog 252 0 = some (0, 248) := by kernel_rfl
theorem tyF252_1 : tyF Tryz.prog 252 1 = some (1, 248) := by kernel_rfl
theorem tyF265_0 : tyF Tryz.prog 265 0 = some (0, 263) := by kernel_rfl
theorem tyF265_1 : tyF Tryz.prog 265 1 = some (256, 41) := by kernel_rfl
theorem tyF274_0 : tyF Tryz.prog 274 0 = some (0, 182) := by kernel_rfl
theorem tyF274_1 : tyF Tryz.prog 274 1 = some (1, 182) := by kernel_rfl
theorem tyF274_2 : tyF Tryz.prog 274 2 = some (2, 272) := by kernel_rfl
theorem tyF281_0 : tyF Tryz.prog 281 0 = some (0, 278) := by kernel_rfl
theorem tyF281_1 : tyF Tryz.prog 281 1 = some (1, 9) := by kernel_rfl
theorem tyF285_0 : tyF Tryz.prog 285 0 = some (0, 9) := by kernel_rfl
theorem tyF285_1 : tyF Tryz.prog 285 1 = some (1, 3) := by kernel_rfl
theorem tyF285_2 : tyF Tryz.prog 285 2 = some (2, 9) := by kernel_rfl
theorem tyF285_3 : tyF Tryz.prog 285 3 = some (3, 282) := by kernel_rfl
theorem tyF285_4 : tyF Tryz.prog 285 4 = some (4, 283) := by kernel_rfl
theorem tyF287_0 : tyF Tryz.prog 287 0 = some (0, 285) := by kernel_rfl
theorem tyF287_1 : tyF Tryz.prog 287 1 = some (5, 3) := by kernel_rfl
theorem tyF287_2 : tyF Tryz.prog 287 2 = some (6, 241) := by kernel_rfl
theorem tyF299_0 : tyF Tryz.prog 299 0 = some (0, 9) := by kernel_rfl
theorem tyF299_1 : tyF Tryz.prog 299 1 = some (1, 297) := by kernel_rfl
theorem tyF299_2 : tyF Tryz.prog 299 2 = some (257, 22) := by kernel_rfl
theorem tyF327_0 : tyF Tryz.prog 327 0 = some (0, 319) := by kernel_rfl
theorem tyE22 : tyE Tryz.prog 22 = some (3, 1) := by kernel_rfl
theorem tyL22 : Elem Tryz.prog 22 3 1 8 := Elem.mk (z := .int .i64 0) (by kernel_rfl) (by kernel_rfl) rfl (by decide)
theorem tyE26 : tyE Tryz.prog 26 = some (80, 2) := by kernel_rfl
theorem tyL26 : Elem Tryz.prog 26 80 2 32 := Elem.mk (z := .agg #[.string ⟨#[]⟩, .string ⟨#[]⟩]) (by kernel_rfl) (by kernel_rfl) rfl (by decide)
theorem tyE41 : tyE Tryz.prog 41 = some (9, 1) := by kernel_rfl
theorem tyL41 : Elem Tryz.prog 41 9 1 16 := Elem.mk (z := .string ⟨#[]⟩) (by kernel_rfl) (by kernel_rfl) rfl (by decide)
theorem tyE46 : tyE Tryz.prog 46 = some (5, 1) := by kernel_rfl
theorem tyL46 : Elem Tryz.prog 46 5 1 1 := Elem.mk (z := .int .u8 0) (by kernel_rfl) (by kernel_rfl) rfl (by decide)
theorem tyE57 : tyE Tryz.prog 57 = some (67, 2) := by kernel_rfl
theorem tyL57 : Elem Tryz.prog 57 67 2 32 := Elem.mk (z := .agg #[.string ⟨#[]⟩, .string ⟨#[]⟩]) (by kernel_rfl) (by kernel_rfl) rfl (by decide)
theorem tyE68 : tyE Tryz.prog 68 = some (123, 3) := by kernel_rfl
theorem tyL68 : Elem Tryz.prog 68 123 3 48 := Elem.mk (z := .agg #[.string ⟨#[]⟩, .slice none 0 0, .int .i64 0]) (by kernel_rfl) (by kernel_rfl) rfl (by decide)
theorem tyE97 : tyE Tryz.prog 97 = some (101, 2) := by kernel_rfl
theorem tyL97 : Elem Tryz.prog 97 101 2 2 := Elem.mk (z := .agg #[.int .u8 0, .bool false]) (by kernel_rfl) (by kernel_rfl) rfl (by decide)
theorem tyE145 : tyE Tryz.prog 145 = some (34, 1) := by kernel_rfl
theorem tyL145 : Elem Tryz.prog 145 34 1 8 := Elem.mk (z := .int .i64 0) (by kernel_rfl) (by kernel_rfl) rfl (by decide)
theorem tyE227 : tyE Tryz.prog 227 = some (274, 5) := by kernel_rfl
theorem tyL227 : Elem Tryz.prog 227 274 5 20 := Elem.mk (z := .agg #[.int .u32 0, .int .u32 0, .int .i32 0, .int .i32 0, .int .i32 0]) (by kernel_rfl) (by kernel_rfl) rfl (by decide)
theorem tyE250 : tyE Tryz.prog 250 = some (252, 2) := by kernel_rfl
theorem tyL250 : Elem Tryz.prog 250 252 2 4 := Elem.mk (z := .agg #[.int .u16 0, .int .u16 0]) (by kernel_rfl) (by kernel_rfl) rfl (by decide)
theorem tyE283 : tyE Tryz.prog 283 = some (282, 1) := by kernel_rfl
theorem tyL283 : Elem Tryz.prog 283 282 1 8 := Elem.mk (z := .pointer none) (by kernel_rfl) (by kernel_rfl) rfl (by decide)
theorem tyE316 : tyE Tryz.prog 316 = some (5, 1) := by kernel_rfl
theorem tyL316 : Elem Tryz.prog 316 5 1 1 := Elem.mk (z := .int .u8 0) (by kernel_rfl) (by kernel_rfl) rfl (by decide)
theorem tyU2 : Tryz.prog.underlying 2 = some (.int .i64) := by kernel_rfl
theorem tyU3 : Tryz.prog.underlying 3 = some (.int .i64) := by kernel_rfl
theorem tyU4 : Tryz.prog.underlying 4 = some .bool := by kernel_rfl
theorem tyU5 : Tryz.prog.underlying 5 = some (.int .u8) := by kernel_rfl
theorem tyU9 : Tryz.prog.underlying 9 = some .string := by kernel_rfl
theorem tyU21 : Tryz.prog.underlying 21 = some (.int .i32) := by kernel_rfl
theorem tyU22 : Tryz.prog.underlying 22 = some (.slice 3) := by kernel_rfl
theorem tyU23 : Tryz.prog.underlying 23 = some (.pointer 25) := by kernel_rfl
theorem tyU26 : Tryz.prog.underlying 26 = some (.slice 80) := by kernel_rfl
theorem tyU34 : Tryz.prog.underlying 34 = some (.int .i64) := by kernel_rfl
theorem tyU41 : Tryz.prog.underlying 41 = some (.slice 9) := by kernel_rfl
theorem tyU46 : Tryz.prog.underlying 46 = some (.slice 5) := by kernel_rfl
theorem tyU57 : Tryz.prog.underlying 57 = some (.slice 67) := by kernel_rfl
theorem tyU68 : Tryz.prog.underlying 68 = some (.slice 123) := by kernel_rfl
theorem tyU97 : Tryz.prog.underlying 97 = some (.slice 101) := by kernel_rfl
theorem tyU108 : Tryz.prog.underlying 108 = some (.pointer 110) := by kernel_rfl
theorem tyU124 : Tryz.prog.underlying 124 = some (.pointer 123) := by kernel_rfl
theorem tyU125 : Tryz.prog.underlying 125 = some (.pointer 127) := by kernel_rfl
theorem tyU132 : Tryz.prog.underlying 132 = some (.pointer 134) := by kernel_rfl
theorem tyU145 : Tryz.prog.underlying 145 = some (.slice 34) := by kernel_rfl
theorem tyU148 : Tryz.prog.underlying 148 = some (.int .u64) := by kernel_rfl
theorem tyU159 : Tryz.prog.underlying 159 = some (.array 256 4) := by kernel_rfl
theorem tyU163 : Tryz.prog.underlying 163 = some (.pointer 159) := by kernel_rfl
theorem tyU166 : Tryz.prog.underlying 166 = some (.int .u64) := by kernel_rfl
theorem tyU170 : Tryz.prog.underlying 170 = some (.pointer 5) := by kernel_rfl
theorem tyU177 : Tryz.prog.underlying 177 = some (.pointer 4) := by kernel_rfl
theorem tyU178 : Tryz.prog.underlying 178 = some (.pointer 211) := by kernel_rfl
theorem tyU182 : Tryz.prog.underlying 182 = some (.int .u32) := by kernel_rfl
theorem tyU213 : Tryz.prog.underlying 213 = some (.array 24 5) := by kernel_rfl
theorem tyU227 : Tryz.prog.underlying 227 = some (.slice 274) := by kernel_rfl
theorem tyU230 : Tryz.prog.underlying 230 = some (.pointer 207) := by kernel_rfl
theorem tyU233 : Tryz.prog.underlying 233 = some (.array 20 166) := by kernel_rfl
theorem tyU234 : Tryz.prog.underlying 234 = some (.array 65 5) := by kernel_rfl
theorem tyU241 : Tryz.prog.underlying 241 = some (.array 256 5) := by kernel_rfl
theorem tyU244 : Tryz.prog.underlying 244 = some (.array 16 243) := by kernel_rfl
theorem tyU245 : Tryz.prog.underlying 245 = some (.pointer 274) := by kernel_rfl
theorem tyU248 : Tryz.prog.underlying 248 = some (.int .u16) := by kernel_rfl
theorem tyU249 : Tryz.prog.underlying 249 = some (.array 128 248) := by kernel_rfl
theorem tyU250 : Tryz.prog.underlying 250 = some (.slice 252) := by kernel_rfl
theorem tyU255 : Tryz.prog.underlying 255 = some (.pointer 182) := by kernel_rfl
theorem tyU259 : Tryz.prog.underlying 259 = some (.pointer 287) := by kernel_rfl
theorem tyU261 : Tryz.prog.underlying 261 = some (.array 256 5) := by kernel_rfl
theorem tyU263 : Tryz.prog.underlying 263 = some (.array 256 46) := by kernel_rfl
theorem tyU272 : Tryz.prog.underlying 272 = some (.array 3 21) := by kernel_rfl
theorem tyU278 : Tryz.prog.underlying 278 = some (.pointer 299) := by kernel_rfl
theorem tyU282 : Tryz.prog.underlying 282 = some (.pointer 285) := by kernel_rfl
theorem tyU283 : Tryz.prog.underlying 283 = some (.slice 282) := by kernel_rfl
theorem tyU289 : Tryz.prog.underlying 289 = some (.array 32 5) := by kernel_rfl
theorem tyU290 : Tryz.prog.underlying 290 = some (.array 64 5) := by kernel_rfl
theorem tyU291 : Tryz.prog.underlying 291 = some (.pointer 203) := by kernel_rfl
theorem tyU293 : Tryz.prog.underlying 293 = some (.pointer 21) := by kernel_rfl
theorem tyU297 : Tryz.prog.underlying 297 = some (.array 256 3) := by kernel_rfl
theorem tyU316 : Tryz.prog.underlying 316 = some (.slice 5) := by kernel_rfl
theorem tyQ55 : tyQ Tryz.prog 55 = some [.string, .string, .string, .string, .int .i64, .bool, .bool] := by kernel_rfl
theorem tyQ67 : tyQ Tryz.prog 67 = some [.string, .string] := by kernel_rfl
end Go.Proofs.YtbejggfkfaibeaaGreatDoor
