/- Plain models of functions. Printed by a program. -/
import Derived.Test.YtbejggfkfaibeaaGreatDoorMc
namespace Go.Proofs.YtbejggfkfaibeaaGreatDoor
set_option linter.unusedVariables false
set_option maxRecDepth 20000
structure S_gatemake_Stream where
  L : (List Int)
  at_ : Int
noncomputable def gatemake_Below_J1 (x6 : Int) : Option (Int) :=
  some x6
noncomputable def m_gatemake_Below (x1 : Int) (n2 : Int) : Option (Int) :=
  if decide (n2 < 1) then some 0 else (if n2 ≠ 0 then (if decide ((Int.tmod x1 n2) < 0) then (gatemake_Below_J1 (wr ((Int.tmod x1 n2) + n2))) else (gatemake_Below_J1 (Int.tmod x1 n2))) else none)
noncomputable def m_gatemake_Stream_Next (s1 : S_gatemake_Stream) (n2 : Int) : Option (Int × S_gatemake_Stream) :=
  if decide ((s1.L.length : Int) = 0) then ((m_gatemake_Below (wr ((wr (s1.at_ + 1)) * 7919)) n2).bind fun (r4 : (Int)) => some (r4, (S_gatemake_Stream.mk s1.L (wr (s1.at_ + 1))))) else (if (s1.L.length : Int) ≠ 0 then (if ((0 : Int) ≤ (wr ((wr (s1.at_ + 1)) - 1)) ∧ (wr ((wr (s1.at_ + 1)) - 1)) ≤ 9223372036854775807) ∧ (0 : Int) < (s1.L.length : Int) then ((at? s1.L (Int.tmod (wr ((wr (s1.at_ + 1)) - 1)) (s1.L.length : Int))).bind fun (x8 : Int) => (m_gatemake_Below x8 1073741824).bind fun (r10 : (Int)) => (m_gatemake_Below (wr (r10 + (wr (((wr ((wr (s1.at_ + 1)) - 1)) / (s1.L.length : Int)) * (wr (7919 + (Int.tmod (wr ((wr (s1.at_ + 1)) - 1)) (s1.L.length : Int)))))))) n2).bind fun (r12 : (Int)) => some (r12, (S_gatemake_Stream.mk s1.L (wr (s1.at_ + 1))))) else none) else none)
noncomputable def m_gatemake_Stream_Some (s1 : S_gatemake_Stream) (l2 : (List Bs)) : Option (Bs × S_gatemake_Stream) :=
  (m_gatemake_Stream_Next s1 (l2.length : Int)).bind fun (r3 : (Int × S_gatemake_Stream)) => (at? l2 r3.1).bind fun (x5 : Bs) => some (x5, r3.2)
noncomputable def m_gatemake_Stream_Pick (s1 : S_gatemake_Stream) (l2 : (List Int)) : Option (Int × S_gatemake_Stream) :=
  (m_gatemake_Stream_Next s1 (l2.length : Int)).bind fun (r3 : (Int × S_gatemake_Stream)) => (at? l2 r3.1).bind fun (x5 : Int) => some (x5, r3.2)
noncomputable def m_internal_strconv_small (i1 : Int) : Option (Bs) :=
  if decide (i1 < 10) then ((sub? [48, 49, 50, 51, 52, 53, 54, 55, 56, 57, 97, 98, 99, 100, 101, 102, 103, 104, 105, 106, 107, 108, 109, 110, 111, 112, 113, 114, 115, 116, 117, 118, 119, 120, 121, 122] i1 (wr (i1 + 1))).bind fun (l3 : Bs) => some l3) else ((sub? [48, 48, 48, 49, 48, 50, 48, 51, 48, 52, 48, 53, 48, 54, 48, 55, 48, 56, 48, 57, 49, 48, 49, 49, 49, 50, 49, 51, 49, 52, 49, 53, 49, 54, 49, 55, 49, 56, 49, 57, 50, 48, 50, 49, 50, 50, 50, 51, 50, 52, 50, 53, 50, 54, 50, 55, 50, 56, 50, 57, 51, 48, 51, 49, 51, 50, 51, 51, 51, 52, 51, 53, 51, 54, 51, 55, 51, 56, 51, 57, 52, 48, 52, 49, 52, 50, 52, 51, 52, 52, 52, 53, 52, 54, 52, 55, 52, 56, 52, 57, 53, 48, 53, 49, 53, 50, 53, 51, 53, 52, 53, 53, 53, 54, 53, 55, 53, 56, 53, 57, 54, 48, 54, 49, 54, 50, 54, 51, 54, 52, 54, 53, 54, 54, 54, 55, 54, 56, 54, 57, 55, 48, 55, 49, 55, 50, 55, 51, 55, 52, 55, 53, 55, 54, 55, 55, 55, 56, 55, 57, 56, 48, 56, 49, 56, 50, 56, 51, 56, 52, 56, 53, 56, 54, 56, 55, 56, 56, 56, 57, 57, 48, 57, 49, 57, 50, 57, 51, 57, 52, 57, 53, 57, 54, 57, 55, 57, 56, 57, 57] (wr (i1 * 2)) (wr ((wr (i1 * 2)) + 2))).bind fun (l5 : Bs) => some l5)
noncomputable def math_bits_Len64_J3 (x9 : Int) (n10 : Int) : Option (Int) :=
  (at? [0, 1, 2, 2, 3, 3, 3, 3, 4, 4, 4, 4, 4, 4, 4, 4, 5, 5, 5, 5, 5, 5, 5, 5, 5, 5, 5, 5, 5, 5, 5, 5, 6, 6, 6, 6, 6, 6, 6, 6, 6, 6, 6, 6, 6, 6, 6, 6, 6, 6, 6, 6, 6, 6, 6, 6, 6, 6, 6, 6, 6, 6, 6, 6, 7, 7, 7, 7, 7, 7, 7, 7, 7, 7, 7, 7, 7, 7, 7, 7, 7, 7, 7, 7, 7, 7, 7, 7, 7, 7, 7, 7, 7, 7, 7, 7, 7, 7, 7, 7, 7, 7, 7, 7, 7, 7, 7, 7, 7, 7, 7, 7, 7, 7, 7, 7, 7, 7, 7, 7, 7, 7, 7, 7, 7, 7, 7, 7, 8, 8, 8, 8, 8, 8, 8, 8, 8, 8, 8, 8, 8, 8, 8, 8, 8, 8, 8, 8, 8, 8, 8, 8, 8, 8, 8, 8, 8, 8, 8, 8, 8, 8, 8, 8, 8, 8, 8, 8, 8, 8, 8, 8, 8, 8, 8, 8, 8, 8, 8, 8, 8, 8, 8, 8, 8, 8, 8, 8, 8, 8, 8, 8, 8, 8, 8, 8, 8, 8, 8, 8, 8, 8, 8, 8, 8, 8, 8, 8, 8, 8, 8, 8, 8, 8, 8, 8, 8, 8, 8, 8, 8, 8, 8, 8, 8, 8, 8, 8, 8, 8, 8, 8, 8, 8, 8, 8, 8, 8, 8, 8, 8, 8, 8, 8, 8, 8, 8, 8, 8, 8, 8, 8, 8, 8, 8, 8] (IntKind.wrap .u8 x9)).bind fun (x11 : UInt8) => some (wr (n10 + (IntKind.wrap .i64 (x11.toNat : Int))))
noncomputable def math_bits_Len64_J2 (x6 : Int) (n7 : Int) : Option (Int) :=
  if decide (256 ≤ x6) then (math_bits_Len64_J3 (shr_ .u64 x6 8) (wr (n7 + 8))) else (math_bits_Len64_J3 x6 n7)
noncomputable def math_bits_Len64_J1 (x3 : Int) (n4 : Int) : Option (Int) :=
  if decide (65536 ≤ x3) then (math_bits_Len64_J2 (shr_ .u64 x3 16) (wr (n4 + 16))) else (math_bits_Len64_J2 x3 n4)
noncomputable def m_math_bits_Len64 (x1 : Int) : Option (Int) :=
  if decide (4294967296 ≤ x1) then (math_bits_Len64_J1 (shr_ .u64 x1 32) 32) else (math_bits_Len64_J1 x1 0)
noncomputable def m_internal_strconv_log10Pow2 (x1 : Int) : Option (Int) :=
  some (shr_ .i64 (wr (x1 * 78913)) 18)
noncomputable def m_internal_strconv_isPowerOfTwo (x1 : Int) : Option (Bool) :=
  some (decide ((and_ .i64 x1 (wr (x1 - 1))) = 0))
noncomputable def internal_strconv_formatBits_J7 (v5 : Bool) (v52 : Int) (l53 : (List Int)) : Option ((List Int) × Bs) :=
  if v5 then none else (if l53.length = 65 then (if (0 : Int) ≤ v52 ∧ v52 ≤ (65 : Int) then (some ([], (strN (l53.drop v52.toNat)))) else none) else none)
noncomputable def internal_strconv_formatBits_J2 (v4 : Bool) (v5 : Bool) (v47 : Int) (l48 : (List Int)) : Option ((List Int) × Bs) :=
  if v4 then (if (0 : Int) ≤ (wr (v47 - 1)) ∧ (wr (v47 - 1)) < (65 : Int) then (if (wr (v47 - 1)).toNat < l48.length then (internal_strconv_formatBits_J7 v5 (wr (v47 - 1)) (l48.set (wr (v47 - 1)).toNat 45)) else none) else none) else (internal_strconv_formatBits_J7 v5 v47 l48)
noncomputable def internal_strconv_formatBits_J3 (v4 : Bool) (v5 : Bool) (v23 : Int) (v24 : Int) (l25 : (List Int)) : Option ((List Int) × Bs) :=
  (at? [48, 49, 50, 51, 52, 53, 54, 55, 56, 57, 97, 98, 99, 100, 101, 102, 103, 104, 105, 106, 107, 108, 109, 110, 111, 112, 113, 114, 115, 116, 117, 118, 119, 120, 121, 122] v23).bind fun (x26 : UInt8) => if (0 : Int) ≤ (wr (v24 - 1)) ∧ (wr (v24 - 1)) < (65 : Int) then (if (wr (v24 - 1)).toNat < l25.length then (internal_strconv_formatBits_J2 v4 v5 (wr (v24 - 1)) (l25.set (wr (v24 - 1)).toNat (x26.toNat : Int))) else none) else none
noncomputable def internal_strconv_formatBits_L4 (v3 : Int) (v4 : Bool) (v5 : Bool) (r11 : (Int)) (v13 : Int) (v14 : Int) (l15 : (List Int)) : Option ((Int × Int × (List Int)) ⊕ ((List Int) × Bs)) :=
  if decide ((IntKind.wrap .u64 v3) ≤ v13) then ((at? [48, 49, 50, 51, 52, 53, 54, 55, 56, 57, 97, 98, 99, 100, 101, 102, 103, 104, 105, 106, 107, 108, 109, 110, 111, 112, 113, 114, 115, 116, 117, 118, 119, 120, 121, 122] (and_ .u64 v13 (IntKind.wrap .u64 ((IntKind.wrap .u64 v3) - 1)))).bind fun (x18 : UInt8) => if (0 : Int) ≤ (wr (v14 - 1)) ∧ (wr (v14 - 1)) < (65 : Int) then (if (wr (v14 - 1)).toNat < l15.length then (if (0 : Int) ≤ (IntKind.wrap .u64 r11) then (some (.inl ((shr_ .u64 v13 (IntKind.wrap .u64 r11)), wr (v14 - 1), (l15.set (wr (v14 - 1)).toNat (x18.toNat : Int))))) else none) else none) else none) else (Option.map .inr (internal_strconv_formatBits_J3 v4 v5 v13 v14 l15))
noncomputable def internal_strconv_formatBits_J5 (v4 : Bool) (v5 : Bool) (v40 : Int) (v41 : Int) (l42 : (List Int)) : Option ((List Int) × Bs) :=
  (at? [48, 49, 50, 51, 52, 53, 54, 55, 56, 57, 97, 98, 99, 100, 101, 102, 103, 104, 105, 106, 107, 108, 109, 110, 111, 112, 113, 114, 115, 116, 117, 118, 119, 120, 121, 122] v40).bind fun (x43 : UInt8) => if (0 : Int) ≤ (wr (v41 - 1)) ∧ (wr (v41 - 1)) < (65 : Int) then (if (wr (v41 - 1)).toNat < l42.length then (internal_strconv_formatBits_J2 v4 v5 (wr (v41 - 1)) (l42.set (wr (v41 - 1)).toNat (x43.toNat : Int))) else none) else none
noncomputable def internal_strconv_formatBits_L6 (v3 : Int) (v4 : Bool) (v5 : Bool) (v30 : Int) (v31 : Int) (l32 : (List Int)) : Option ((Int × Int × (List Int)) ⊕ ((List Int) × Bs)) :=
  if decide ((IntKind.wrap .u64 v3) ≤ v30) then (if (IntKind.wrap .u64 v3) ≠ 0 then ((at? [48, 49, 50, 51, 52, 53, 54, 55, 56, 57, 97, 98, 99, 100, 101, 102, 103, 104, 105, 106, 107, 108, 109, 110, 111, 112, 113, 114, 115, 116, 117, 118, 119, 120, 121, 122] (IntKind.wrap .u64 (v30 - (IntKind.wrap .u64 ((IntKind.wrap .u64 (Int.tdiv v30 (IntKind.wrap .u64 v3))) * (IntKind.wrap .u64 v3)))))).bind fun (x36 : UInt8) => if (0 : Int) ≤ (wr (v31 - 1)) ∧ (wr (v31 - 1)) < (65 : Int) then (if (wr (v31 - 1)).toNat < l32.length then (some (.inl ((IntKind.wrap .u64 (Int.tdiv v30 (IntKind.wrap .u64 v3))), wr (v31 - 1), (l32.set (wr (v31 - 1)).toNat (x36.toNat : Int))))) else none) else none) else none) else (Option.map .inr (internal_strconv_formatBits_J5 v4 v5 v30 v31 l32))
noncomputable def internal_strconv_formatBits_J1 (v2 : Int) (v3 : Int) (v4 : Bool) (v5 : Bool) : Option ((List Int) × Bs) :=
  (m_internal_strconv_isPowerOfTwo v3).bind fun (r8 : (Bool)) => if r8 then ((m_bits_TrailingZeros (IntKind.wrap .u64 v3)).bind fun (r11 : (Int)) => iter (fun (s : Int × Int × (List Int)) => internal_strconv_formatBits_L4 v3 v4 v5 r11 s.1 s.2.1 s.2.2) (v2, 65, (List.replicate 65 0))) else (iter (fun (s : Int × Int × (List Int)) => internal_strconv_formatBits_L6 v3 v4 v5 s.1 s.2.1 s.2.2) (v2, 65, (List.replicate 65 0)))
noncomputable def m_internal_strconv_formatBits (v1 : (List Int)) (v2 : Int) (v3 : Int) (v4 : Bool) (v5 : Bool) : Option ((List Int) × Bs) :=
  if (((decide (v3 < 2)) || (decide (v3 = 10))) || (decide (36 < v3))) then none else (if v4 then none else (internal_strconv_formatBits_J1 v2 v3 v4 v5))
noncomputable def m_internal_strconv_FormatInt (i1 : Int) (base2 : Int) : Option (Bs) :=
  if decide (base2 = 10) then (if ((decide (0 ≤ i1)) && (decide (i1 < 100))) then ((m_internal_strconv_small i1).bind fun (r5 : (Bs)) => some r5) else none) else ((m_internal_strconv_formatBits ([] : (List Int)) (IntKind.wrap .u64 i1) base2 (decide (i1 < 0)) false).bind fun (r7 : ((List Int) × Bs)) => some r7.2)
noncomputable def m_strconv_FormatInt (i1 : Int) (base2 : Int) : Option (Bs) :=
  (m_internal_strconv_FormatInt i1 base2).bind fun (r3 : (Bs)) => some r3
noncomputable def gateref2_ChunksOf_J1 (out17 : Bs) : Option (Bs) :=
  if out17.length + [48].length ≤ 1000000000 then (if (out17 ++ [48]).length + [13, 10].length ≤ 1000000000 then (if ((out17 ++ [48]) ++ [13, 10]).length + [13, 10].length ≤ 1000000000 then (some (((out17 ++ [48]) ++ [13, 10]) ++ [13, 10])) else none) else none) else none
noncomputable def gateref2_ChunksOf_L2 (size2 : Int) (body3 : Bs) (out4 : Bs) : Option ((Bs × Bs) ⊕ (Bs)) :=
  if decide (body3 ≠ []) then ((m_strconv_FormatInt (min size2 (body3.length : Int)) 16).bind fun (r7 : (Bs)) => if r7.length + [13, 10].length ≤ 1000000000 then ((sub? body3 0 (min size2 (body3.length : Int))).bind fun (l10 : Bs) => if (r7 ++ [13, 10]).length + l10.length ≤ 1000000000 then (if ((r7 ++ [13, 10]) ++ l10).length + [13, 10].length ≤ 1000000000 then (if out4.length + (((r7 ++ [13, 10]) ++ l10) ++ [13, 10]).length ≤ 1000000000 then ((sub? body3 (min size2 (body3.length : Int)) (body3.length : Int)).bind fun (l15 : Bs) => some (.inl (l15, (out4 ++ (((r7 ++ [13, 10]) ++ l10) ++ [13, 10]))))) else none) else none) else none) else none) else (Option.map .inr (gateref2_ChunksOf_J1 out4))
noncomputable def m_gateref2_ChunksOf (body1 : Bs) (size2 : Int) : Option (Bs) :=
  iter (fun (s : Bs × Bs) => gateref2_ChunksOf_L2 size2 s.1 s.2) (body1, [])
noncomputable def m_gatemake_Stream_Flip (s1 : S_gatemake_Stream) (n2 : Int) : Option (Bool × S_gatemake_Stream) :=
  (m_gatemake_Stream_Next s1 n2).bind fun (r3 : (Int × S_gatemake_Stream)) => some (decide (r3.1 = 0), r3.2)
noncomputable def m_gatemake_Stream_Changed (s1 : S_gatemake_Stream) (t2 : Bs) (v3 : Bs) : Option (Bs × S_gatemake_Stream) :=
  if ((decide (t2 = [])) || (decide (v3 = []))) then (some (v3, s1)) else ((m_gatemake_Stream_Next s1 (t2.length : Int)).bind fun (r5 : (Int × S_gatemake_Stream)) => (m_gatemake_Stream_Next r5.2 (v3.length : Int)).bind fun (r7 : (Int × S_gatemake_Stream)) => (at? v3 r7.1).bind fun (x9 : UInt8) => (m_gatemake_Stream_Next r7.2 3).bind fun (r11 : (Int × S_gatemake_Stream)) => if decide (r11.1 = 0) then ((sub? t2 0 r5.1).bind fun (l14 : Bs) => if l14.length + (encL (IntKind.wrap .i32 (x9.toNat : Int))).length ≤ 1000000000 then ((sub? t2 (wr (r5.1 + 1)) (t2.length : Int)).bind fun (l17 : Bs) => if (l14 ++ (encL (IntKind.wrap .i32 (x9.toNat : Int)))).length + l17.length ≤ 1000000000 then (some (((l14 ++ (encL (IntKind.wrap .i32 (x9.toNat : Int)))) ++ l17), r11.2)) else none) else none) else (if decide (r11.1 = 1) then ((sub? t2 0 r5.1).bind fun (l21 : Bs) => if l21.length + (encL (IntKind.wrap .i32 (x9.toNat : Int))).length ≤ 1000000000 then ((sub? t2 r5.1 (t2.length : Int)).bind fun (l24 : Bs) => if (l21 ++ (encL (IntKind.wrap .i32 (x9.toNat : Int)))).length + l24.length ≤ 1000000000 then (some (((l21 ++ (encL (IntKind.wrap .i32 (x9.toNat : Int)))) ++ l24), r11.2)) else none) else none) else ((sub? t2 0 r5.1).bind fun (l27 : Bs) => (sub? t2 (wr (r5.1 + 1)) (t2.length : Int)).bind fun (l29 : Bs) => if l27.length + l29.length ≤ 1000000000 then (some ((l27 ++ l29), r11.2)) else none)))
noncomputable def gatemake_Stream_ChunkText_L2 (k23 : Nat) (t20 : Bs) (c21 : (List Int)) (c22 : Int) : Option ((Bs × (List Int) × Int) ⊕ (Bs × S_gatemake_Stream)) :=
  (m_gatemake_Stream_Changed (S_gatemake_Stream.mk c21 c22) t20 [13, 10, 48, 49, 50, 97]).bind fun (r30 : (Bs × S_gatemake_Stream)) => some (.inl (r30.1, r30.2.L, r30.2.at_))
noncomputable def gatemake_Stream_ChunkText_E2 (t20 : Bs) (c21 : (List Int)) (c22 : Int) : Option (Bs × S_gatemake_Stream) :=
  (m_gatemake_Stream_Some (S_gatemake_Stream.mk c21 c22) ([[], [120]])).bind fun (r26 : (Bs × S_gatemake_Stream)) => if t20.length + r26.1.length ≤ 1000000000 then (some ((t20 ++ r26.1), r26.2)) else none
noncomputable def gatemake_Stream_ChunkText_J1 (t15 : Bs) (c16 : (List Int)) (c17 : Int) : Option (Bs × S_gatemake_Stream) :=
  (m_gatemake_Stream_Pick (S_gatemake_Stream.mk c16 c17) [0, 0, 1]).bind fun (r18 : (Int × S_gatemake_Stream)) => if r18.1 ≤ 1000000000 then rng (fun (k : Nat) (s : Bs × (List Int) × Int) => gatemake_Stream_ChunkText_L2 k s.1 s.2.1 s.2.2) (fun (s : Bs × (List Int) × Int) => gatemake_Stream_ChunkText_E2 s.1 s.2.1 s.2.2) r18.1.toNat 0 (t15, r18.2.L, r18.2.at_) else none
noncomputable def m_gatemake_Stream_ChunkText (s1 : S_gatemake_Stream) : Option (Bs × S_gatemake_Stream) :=
  (m_strings_Repeat [97, 98] 20).bind fun (r2 : (Bs)) => (m_gatemake_Stream_Some s1 ([[], [104, 101, 108, 108, 111], r2])).bind fun (r4 : (Bs × S_gatemake_Stream)) => (m_gatemake_Stream_Pick r4.2 [1, 2, 3, 16, 100]).bind fun (r6 : (Int × S_gatemake_Stream)) => (m_gateref2_ChunksOf r4.1 r6.1).bind fun (r8 : (Bs)) => (m_gatemake_Stream_Flip r6.2 6).bind fun (r10 : (Bool × S_gatemake_Stream)) => if r10.1 then ((m_gatemake_Stream_Some r10.2 ([[65, 13, 10, 48, 49, 50, 51, 52, 53, 54, 55, 56, 57, 13, 10, 48, 13, 10, 13, 10], [48, 49, 13, 10, 120, 13, 10, 48, 13, 10, 13, 10], [52, 101, 50, 49, 13, 10], [49, 50, 51, 52, 53, 54, 55, 56, 57, 13, 10], [13, 10], [48, 13, 10], [45, 49, 13, 10], [50, 13, 10, 97, 98, 99, 13, 10, 48, 13, 10, 13, 10], []])).bind fun (r13 : (Bs × S_gatemake_Stream)) => gatemake_Stream_ChunkText_J1 r13.1 r13.2.L r13.2.at_) else (gatemake_Stream_ChunkText_J1 r8 r10.2.L r10.2.at_)
noncomputable def m_kit_Outside (n1 : Int) (low2 : Int) (high3 : Int) : Option (Bool) :=
  some ((decide (n1 < low2)) || (decide (high3 < n1)))
noncomputable def m_strings_Builder_WriteString (l1 : (List Int)) (s2 : Bs) : Option (Int × Int × (List Int)) :=
  if l1.length + s2.length ≤ 1000000000 then (some ((s2.length : Int), 0, (l1 ++ numsB s2))) else none
noncomputable def message_Chunk_J1 (l22 : (List Int)) : Option (Bs × Int) :=
  (m_strings_Builder_WriteString l22 [48, 13, 10, 13, 10]).bind fun (r23 : (Int × Int × (List Int))) => if byR r23.2.2 = true then (some ((strN r23.2.2), 0)) else none
noncomputable def message_Chunk_L2 (size2 : Int) (body7 : Bs) (l8 : (List Int)) : Option ((Bs × (List Int)) ⊕ (Bs × Int)) :=
  if decide (0 < (body7.length : Int)) then ((m_strconv_FormatInt (min size2 (body7.length : Int)) 16).bind fun (r11 : (Bs)) => if r11.length + [13, 10].length ≤ 1000000000 then ((sub? body7 0 (min size2 (body7.length : Int))).bind fun (l14 : Bs) => if (r11 ++ [13, 10]).length + l14.length ≤ 1000000000 then (if ((r11 ++ [13, 10]) ++ l14).length + [13, 10].length ≤ 1000000000 then ((m_strings_Builder_WriteString l8 (((r11 ++ [13, 10]) ++ l14) ++ [13, 10])).bind fun (r18 : (Int × Int × (List Int))) => (sub? body7 (min size2 (body7.length : Int)) (body7.length : Int)).bind fun (l20 : Bs) => some (.inl (l20, r18.2.2))) else none) else none) else none) else (Option.map .inr (message_Chunk_J1 l8))
noncomputable def m_message_Chunk (body1 : Bs) (size2 : Int) : Option (Bs × Int) :=
  (m_kit_Outside size2 1 20000).bind fun (r3 : (Bool)) => if r3 then (some ([], 1)) else (if decide (20000 < (body1.length : Int)) then (some ([], 2)) else (iter (fun (s : Bs × (List Int)) => message_Chunk_L2 size2 s.1 s.2) (body1, ([] : List Int))))
noncomputable def m_internal_strconv_lower (c1 : Int) : Option (Int) :=
  some (or_ .u8 c1 32)
noncomputable def internal_strconv_underscoreOK_J7 (v47 : Int) (v85 : Int) : Option ((Int × Int) ⊕ (Bool)) :=
  some (.inl (v85, wr (v47 + 1)))
noncomputable def internal_strconv_underscoreOK_J8 (v14 : Bs) (v46 : Int) (v47 : Int) (v78 : Bool) : Option ((Int × Int) ⊕ (Bool)) :=
  if v78 then (internal_strconv_underscoreOK_J7 v47 48) else ((at? v14 v47).bind fun (x80 : UInt8) => if decide ((x80.toNat : Int) = 95) then (if decide (v46 ≠ 48) then (some (.inr false)) else (internal_strconv_underscoreOK_J7 v47 95)) else (if decide (v46 = 95) then (some (.inr false)) else (internal_strconv_underscoreOK_J7 v47 33)))
noncomputable def internal_strconv_underscoreOK_J5 (v86 : Int) : Option (Bool) :=
  some (decide (v86 ≠ 95))
noncomputable def internal_strconv_underscoreOK_L6 (v14 : Bs) (v45 : Bool) (v46 : Int) (v47 : Int) : Option ((Int × Int) ⊕ (Bool)) :=
  if decide (v47 < (v14.length : Int)) then ((at? v14 v47).bind fun (x50 : UInt8) => if decide (48 ≤ (x50.toNat : Int)) then (if decide ((x50.toNat : Int) ≤ 57) then (internal_strconv_underscoreOK_J8 v14 v46 v47 true) else (if v45 then ((m_internal_strconv_lower (x50.toNat : Int)).bind fun (r58 : (Int)) => if decide (97 ≤ r58) then ((m_internal_strconv_lower (x50.toNat : Int)).bind fun (r62 : (Int)) => internal_strconv_underscoreOK_J8 v14 v46 v47 (decide (r62 ≤ 102))) else (internal_strconv_underscoreOK_J8 v14 v46 v47 false)) else (internal_strconv_underscoreOK_J8 v14 v46 v47 false))) else (if v45 then ((m_internal_strconv_lower (x50.toNat : Int)).bind fun (r70 : (Int)) => if decide (97 ≤ r70) then ((m_internal_strconv_lower (x50.toNat : Int)).bind fun (r74 : (Int)) => internal_strconv_underscoreOK_J8 v14 v46 v47 (decide (r74 ≤ 102))) else (internal_strconv_underscoreOK_J8 v14 v46 v47 false)) else (internal_strconv_underscoreOK_J8 v14 v46 v47 false))) else (Option.map .inr (internal_strconv_underscoreOK_J5 v46))
noncomputable def internal_strconv_underscoreOK_J3 (v14 : Bs) (v43 : Int) (v44 : Int) (v45 : Bool) : Option (Bool) :=
  iter (fun (s : Int × Int) => internal_strconv_underscoreOK_L6 v14 v45 s.1 s.2) (v43, v44)
noncomputable def internal_strconv_underscoreOK_J4 (v14 : Bs) (v37 : Bool) : Option (Bool) :=
  if v37 then ((v14[1]?).bind fun (x39 : UInt8) => (m_internal_strconv_lower (x39.toNat : Int)).bind fun (r41 : (Int)) => internal_strconv_underscoreOK_J3 v14 48 2 (decide (r41 = 120))) else (internal_strconv_underscoreOK_J3 v14 94 0 false)
noncomputable def internal_strconv_underscoreOK_J1 (v14 : Bs) : Option (Bool) :=
  if decide (2 ≤ (v14.length : Int)) then ((v14[0]?).bind fun (x17 : UInt8) => if decide ((x17.toNat : Int) = 48) then ((v14[1]?).bind fun (x21 : UInt8) => (m_internal_strconv_lower (x21.toNat : Int)).bind fun (r23 : (Int)) => if decide (r23 = 98) then (internal_strconv_underscoreOK_J4 v14 true) else ((m_internal_strconv_lower (x21.toNat : Int)).bind fun (r27 : (Int)) => if decide (r27 = 111) then (internal_strconv_underscoreOK_J4 v14 true) else ((m_internal_strconv_lower (x21.toNat : Int)).bind fun (r31 : (Int)) => internal_strconv_underscoreOK_J4 v14 (decide (r31 = 120))))) else (internal_strconv_underscoreOK_J4 v14 false)) else (internal_strconv_underscoreOK_J4 v14 false)
noncomputable def internal_strconv_underscoreOK_J2 (v1 : Bs) (v10 : Bool) : Option (Bool) :=
  if v10 then ((sub? v1 1 (v1.length : Int)).bind fun (l12 : Bs) => internal_strconv_underscoreOK_J1 l12) else (internal_strconv_underscoreOK_J1 v1)
noncomputable def m_internal_strconv_underscoreOK (v1 : Bs) : Option (Bool) :=
  if decide (1 ≤ (v1.length : Int)) then ((v1[0]?).bind fun (x4 : UInt8) => if decide ((x4.toNat : Int) = 45) then (internal_strconv_underscoreOK_J2 v1 true) else (internal_strconv_underscoreOK_J2 v1 (decide ((x4.toNat : Int) = 43)))) else (internal_strconv_underscoreOK_J2 v1 false)
noncomputable def internal_strconv_ParseUint_J9 (v87 : Bool) (v88 : Int) : Option ((Bool × Int) ⊕ (Int × Int)) :=
  some (.inl (v87, v88))
noncomputable def internal_strconv_ParseUint_J10 (v46 : Int) (v49 : Int) (v53 : Int) (v55 : Bool) (v56 : Int) (v83 : Int) : Option ((Bool × Int) ⊕ (Int × Int)) :=
  if decide ((IntKind.wrap .u8 v46) ≤ v83) then (some (.inr (0, 2))) else (if decide (v53 ≤ v56) then (some (.inr (IntKind.wrap .u64 ((shl_ .u64 1 (IntKind.wrap .u64 v49)) - 1), 1))) else (if ((decide ((IntKind.wrap .u64 ((IntKind.wrap .u64 (v56 * (IntKind.wrap .u64 v46))) + (IntKind.wrap .u64 v83))) < (IntKind.wrap .u64 (v56 * (IntKind.wrap .u64 v46))))) || (decide ((IntKind.wrap .u64 ((shl_ .u64 1 (IntKind.wrap .u64 v49)) - 1)) < (IntKind.wrap .u64 ((IntKind.wrap .u64 (v56 * (IntKind.wrap .u64 v46))) + (IntKind.wrap .u64 v83)))))) then (some (.inr (IntKind.wrap .u64 ((shl_ .u64 1 (IntKind.wrap .u64 v49)) - 1), 1))) else (internal_strconv_ParseUint_J9 v55 (IntKind.wrap .u64 ((IntKind.wrap .u64 (v56 * (IntKind.wrap .u64 v46))) + (IntKind.wrap .u64 v83))))))
noncomputable def internal_strconv_ParseUint_J11 (v46 : Int) (v49 : Int) (v53 : Int) (v55 : Bool) (v56 : Int) (x60 : Int) (v79 : Bool) : Option ((Bool × Int) ⊕ (Int × Int)) :=
  if v79 then ((m_internal_strconv_lower x60).bind fun (r81 : (Int)) => internal_strconv_ParseUint_J10 v46 v49 v53 v55 v56 (IntKind.wrap .u8 ((IntKind.wrap .u8 (r81 - 97)) + 10))) else (some (.inr (0, 2)))
noncomputable def internal_strconv_ParseUint_L7 (v2 : Int) (v46 : Int) (v49 : Int) (v53 : Int) (k57 : Nat) (x60 : Int) (v55 : Bool) (v56 : Int) : Option ((Bool × Int) ⊕ (Int × Int)) :=
  if ((decide (x60 = 95)) && (decide (v2 = 0))) then (internal_strconv_ParseUint_J9 true v56) else (if ((decide (48 ≤ x60)) && (decide (x60 ≤ 57))) then (internal_strconv_ParseUint_J10 v46 v49 v53 v55 v56 (IntKind.wrap .u8 (x60 - 48))) else ((m_internal_strconv_lower x60).bind fun (r72 : (Int)) => if decide (97 ≤ r72) then ((m_internal_strconv_lower x60).bind fun (r76 : (Int)) => internal_strconv_ParseUint_J11 v46 v49 v53 v55 v56 x60 (decide (r76 ≤ 122))) else (internal_strconv_ParseUint_J11 v46 v49 v53 v55 v56 x60 false)))
noncomputable def internal_strconv_ParseUint_J8 (v56 : Int) (v66 : Bool) : Option (Int × Int) :=
  if v66 then (some (0, 2)) else (some (v56, 0))
noncomputable def internal_strconv_ParseUint_E7 (v1 : Bs) (v55 : Bool) (v56 : Int) : Option (Int × Int) :=
  if v55 then ((m_internal_strconv_underscoreOK v1).bind fun (r63 : (Bool)) => internal_strconv_ParseUint_J8 v56 (!r63)) else (internal_strconv_ParseUint_J8 v56 false)
noncomputable def internal_strconv_ParseUint_J6 (v1 : Bs) (v2 : Int) (v45 : Bs) (v46 : Int) (v49 : Int) (v53 : Int) : Option (Int × Int) :=
  if (0 : Int) ≤ (IntKind.wrap .u64 v49) then (if (numsB v45).length ≤ 1000000000 then forL (fun (k : Nat) (x : Int) (s : Bool × Int) => internal_strconv_ParseUint_L7 v2 v46 v49 v53 k x s.1 s.2) (fun (s : Bool × Int) => internal_strconv_ParseUint_E7 v1 s.1 s.2) 0 (numsB v45) (false, 0) else none) else none
noncomputable def internal_strconv_ParseUint_J5 (v1 : Bs) (v2 : Int) (v45 : Bs) (v46 : Int) (v49 : Int) : Option (Int × Int) :=
  if decide (v46 = 10) then (internal_strconv_ParseUint_J6 v1 v2 v45 v46 v49 1844674407370955162) else (if decide (v46 = 16) then (internal_strconv_ParseUint_J6 v1 v2 v45 v46 v49 1152921504606846976) else (if (IntKind.wrap .u64 v46) ≠ 0 then (internal_strconv_ParseUint_J6 v1 v2 v45 v46 v49 (IntKind.wrap .u64 ((IntKind.wrap .u64 (Int.tdiv 18446744073709551615 (IntKind.wrap .u64 v46))) + 1))) else none))
noncomputable def internal_strconv_ParseUint_J1 (v1 : Bs) (v2 : Int) (v3 : Int) (v45 : Bs) (v46 : Int) : Option (Int × Int) :=
  if decide (v3 = 0) then (internal_strconv_ParseUint_J5 v1 v2 v45 v46 64) else (if ((decide (v3 < 0)) || (decide (64 < v3))) then (some (0, 4)) else (internal_strconv_ParseUint_J5 v1 v2 v45 v46 v3))
noncomputable def internal_strconv_ParseUint_J4 (v1 : Bs) (v2 : Int) (v3 : Int) (v39 : Bool) : Option (Int × Int) :=
  if v39 then ((sub? v1 2 (v1.length : Int)).bind fun (l41 : Bs) => internal_strconv_ParseUint_J1 v1 v2 v3 l41 16) else ((sub? v1 1 (v1.length : Int)).bind fun (l43 : Bs) => internal_strconv_ParseUint_J1 v1 v2 v3 l43 8)
noncomputable def internal_strconv_ParseUint_J3 (v1 : Bs) (v2 : Int) (v3 : Int) (v28 : Bool) : Option (Int × Int) :=
  if v28 then ((sub? v1 2 (v1.length : Int)).bind fun (l30 : Bs) => internal_strconv_ParseUint_J1 v1 v2 v3 l30 8) else (if decide (3 ≤ (v1.length : Int)) then ((v1[1]?).bind fun (x34 : UInt8) => (m_internal_strconv_lower (x34.toNat : Int)).bind fun (r36 : (Int)) => internal_strconv_ParseUint_J4 v1 v2 v3 (decide (r36 = 120))) else (internal_strconv_ParseUint_J4 v1 v2 v3 false))
noncomputable def internal_strconv_ParseUint_J2 (v1 : Bs) (v2 : Int) (v3 : Int) (v17 : Bool) : Option (Int × Int) :=
  if v17 then ((sub? v1 2 (v1.length : Int)).bind fun (l19 : Bs) => internal_strconv_ParseUint_J1 v1 v2 v3 l19 2) else (if decide (3 ≤ (v1.length : Int)) then ((v1[1]?).bind fun (x23 : UInt8) => (m_internal_strconv_lower (x23.toNat : Int)).bind fun (r25 : (Int)) => internal_strconv_ParseUint_J3 v1 v2 v3 (decide (r25 = 111))) else (internal_strconv_ParseUint_J3 v1 v2 v3 false))
noncomputable def m_internal_strconv_ParseUint (v1 : Bs) (v2 : Int) (v3 : Int) : Option (Int × Int) :=
  if decide (v1 = []) then (some (0, 2)) else (if ((decide (2 ≤ v2)) && (decide (v2 ≤ 36))) then (internal_strconv_ParseUint_J1 v1 v2 v3 v1 v2) else (if decide (v2 = 0) then ((v1[0]?).bind fun (x7 : UInt8) => if decide ((x7.toNat : Int) = 48) then (if decide (3 ≤ (v1.length : Int)) then ((v1[1]?).bind fun (x12 : UInt8) => (m_internal_strconv_lower (x12.toNat : Int)).bind fun (r14 : (Int)) => internal_strconv_ParseUint_J2 v1 v2 v3 (decide (r14 = 98))) else (internal_strconv_ParseUint_J2 v1 v2 v3 false)) else (internal_strconv_ParseUint_J1 v1 v2 v3 v1 10)) else (some (0, 3))))
noncomputable def internal_strconv_ParseInt_J4 (v31 : Int) : Option (Int × Int) :=
  some (v31, 0)
noncomputable def internal_strconv_ParseInt_J3 (v14 : Bool) (r15 : (Int × Int)) (v24 : Int) : Option (Int × Int) :=
  if (0 : Int) ≤ (IntKind.wrap .u64 (wr (v24 - 1))) then (if ((!v14) && (decide ((shl_ .u64 1 (IntKind.wrap .u64 (wr (v24 - 1)))) ≤ r15.1))) then (some (IntKind.wrap .i64 (IntKind.wrap .u64 ((shl_ .u64 1 (IntKind.wrap .u64 (wr (v24 - 1)))) - 1)), 1)) else (if (v14 && (decide ((shl_ .u64 1 (IntKind.wrap .u64 (wr (v24 - 1)))) < r15.1))) then (if -9223372036854775807 ≤ IntKind.wrap .i64 (shl_ .u64 1 (IntKind.wrap .u64 (wr (v24 - 1)))) ∧ IntKind.wrap .i64 (shl_ .u64 1 (IntKind.wrap .u64 (wr (v24 - 1)))) ≤ 9223372036854775807 then (some ((-(IntKind.wrap .i64 (shl_ .u64 1 (IntKind.wrap .u64 (wr (v24 - 1)))))), 1)) else none) else (if v14 then (if -9223372036854775807 ≤ IntKind.wrap .i64 r15.1 ∧ IntKind.wrap .i64 r15.1 ≤ 9223372036854775807 then (internal_strconv_ParseInt_J4 (-(IntKind.wrap .i64 r15.1))) else none) else (internal_strconv_ParseInt_J4 (IntKind.wrap .i64 r15.1))))) else none
noncomputable def internal_strconv_ParseInt_J2 (v3 : Int) (v14 : Bool) (r15 : (Int × Int)) (v21 : Bool) : Option (Int × Int) :=
  if v21 then (some (0, r15.2)) else (if decide (v3 = 0) then (internal_strconv_ParseInt_J3 v14 r15 64) else (internal_strconv_ParseInt_J3 v14 r15 v3))
noncomputable def internal_strconv_ParseInt_J1 (v2 : Int) (v3 : Int) (v13 : Bs) (v14 : Bool) : Option (Int × Int) :=
  (m_internal_strconv_ParseUint v13 v2 v3).bind fun (r15 : (Int × Int)) => if decide (r15.2 ≠ 0) then (if (0 : Int) ≤ r15.2 ∧ r15.2 ≤ (4 : Int) then (internal_strconv_ParseInt_J2 v3 v14 r15 (decide (r15.2 ≠ 1))) else none) else (internal_strconv_ParseInt_J2 v3 v14 r15 false)
noncomputable def m_internal_strconv_ParseInt (v1 : Bs) (v2 : Int) (v3 : Int) : Option (Int × Int) :=
  if decide (v1 = []) then (some (0, 2)) else ((v1[0]?).bind fun (x5 : UInt8) => if decide ((x5.toNat : Int) = 43) then ((sub? v1 1 (v1.length : Int)).bind fun (l8 : Bs) => internal_strconv_ParseInt_J1 v2 v3 l8 false) else (if decide ((x5.toNat : Int) = 45) then ((sub? v1 1 (v1.length : Int)).bind fun (l11 : Bs) => internal_strconv_ParseInt_J1 v2 v3 l11 true) else (internal_strconv_ParseInt_J1 v2 v3 v1 false)))
noncomputable def m_strconv_ParseInt (s1 : Bs) (base2 : Int) (bitSize3 : Int) : Option (Int × Int) :=
  (m_internal_strconv_ParseInt s1 base2 bitSize3).bind fun (r4 : (Int × Int)) => if decide (r4.2 ≠ 0) then ((m_strconv_toError [80, 97, 114, 115, 101, 73, 110, 116] s1 base2 bitSize3 r4.2).bind fun (r7 : (Int)) => some (r4.1, r7)) else (some (r4.1, 0))
noncomputable def message_chunkLength_J1 (s1 : Bs) (v18 : Bool) : Option (Int × Bool) :=
  if v18 then (some (0, false)) else ((m_strconv_ParseInt s1 16 64).bind fun (r20 : (Int × Int)) => some (r20.1, decide (r20.2 = 0)))
noncomputable def m_message_chunkLength (s1 : Bs) : Option (Int × Bool) :=
  if decide (s1 = []) then (message_chunkLength_J1 s1 true) else (if decide (8 < (s1.length : Int)) then (message_chunkLength_J1 s1 true) else ((m_strings_TrimSet s1 [48, 49, 50, 51, 52, 53, 54, 55, 56, 57, 97, 98, 99, 100, 101, 102]).bind fun (r6 : (Bs)) => if decide (r6 ≠ []) then (message_chunkLength_J1 s1 true) else ((s1[0]?).bind fun (x10 : UInt8) => if decide ((x10.toNat : Int) = 48) then (message_chunkLength_J1 s1 (decide (s1 ≠ [48]))) else (message_chunkLength_J1 s1 false))))
noncomputable def m_strings_Builder_Len (l1 : (List Int)) : Option (Int × (List Int)) :=
  some ((l1.length : Int), l1)
noncomputable def message_Unchunk_J2 (v2 : Int) (r7 : (Bs × Bs × Bool)) (r9 : (Int × Bool)) (r12 : (Int × (List Int))) (v20 : Bool) : Option ((Int × (List Int)) ⊕ (Bs × Int × Int)) :=
  if v20 then (some (.inr ([], 0, 9))) else (if decide (r9.1 = 0) then (if byR r12.2 = true then (some (.inr ((strN r12.2), wr (v2 + (wr ((wr ((wr ((r7.1.length : Int) + 2)) + r9.1)) + 2))), 0))) else none) else ((sub? r7.2.1 0 r9.1).bind fun (l24 : Bs) => (m_strings_Builder_WriteString r12.2 l24).bind fun (r26 : (Int × Int × (List Int))) => some (.inl (wr (v2 + (wr ((wr ((wr ((r7.1.length : Int) + 2)) + r9.1)) + 2))), r26.2.2))))
noncomputable def message_Unchunk_L1 (s1 : Bs) (v2 : Int) (l3 : (List Int)) : Option ((Int × (List Int)) ⊕ (Bs × Int × Int)) :=
  (sub? s1 v2 (s1.length : Int)).bind fun (l5 : Bs) => (m_strings_Cut l5 [13, 10]).bind fun (r7 : (Bs × Bs × Bool)) => (m_message_chunkLength r7.1).bind fun (r9 : (Int × Bool)) => if ((!r7.2.2) || (!r9.2)) then (some (.inr ([], 0, 9))) else ((m_strings_Builder_Len l3).bind fun (r12 : (Int × (List Int))) => if decide (20000 < (wr (r12.1 + r9.1))) then (some (.inr ([], 0, 2))) else (if decide ((r7.2.1.length : Int) < (wr (r9.1 + 2))) then (message_Unchunk_J2 v2 r7 r9 r12 true) else ((sub? r7.2.1 r9.1 (wr (r9.1 + 2))).bind fun (l17 : Bs) => message_Unchunk_J2 v2 r7 r9 r12 (decide (l17 ≠ [13, 10])))))
noncomputable def m_message_Unchunk (s1 : Bs) : Option (Bs × Int × Int) :=
  iter (fun (s : Int × (List Int)) => message_Unchunk_L1 s1 s.1 s.2) (0, ([] : List Int))
noncomputable def m_gatelaw2_when (is1 : Bool) (e2 : Int) : Option (Int) :=
  if is1 then some e2 else some 0
noncomputable def gatelaw2_errs_L1 (k2 : Nat) (x5 : Int) : Option (Unit ⊕ (Int)) :=
  if decide (x5 ≠ 0) then (some (.inr x5)) else (some (.inl ()))
noncomputable def gatelaw2_errs_E1 : Option (Int) :=
  some 0
noncomputable def m_gatelaw2_errs (l1 : (List Int)) : Option (Int) :=
  if l1.length ≤ 1000000000 then forL (fun (k : Nat) (x : Int) (s : Unit) => gatelaw2_errs_L1 k x) (fun (s : Unit) => gatelaw2_errs_E1) 0 l1 () else none
noncomputable def m_gateref2_in (n1 : Int) (low2 : Int) (high3 : Int) : Option (Bool) :=
  some ((decide (low2 ≤ n1)) && (decide (n1 ≤ high3)))
noncomputable def gateref2_only_L1 (some2 : Bs) (k3 : Nat) (x6 : UInt8) : Option (Unit ⊕ (Bool)) :=
  (m_strings_IndexByte some2 (x6.toNat : Int)).bind fun (r9 : (Int)) => if decide (r9 < 0) then (some (.inr false)) else (some (.inl ()))
noncomputable def gateref2_only_E1 : Option (Bool) :=
  some true
noncomputable def m_gateref2_only (s1 : Bs) (some2 : Bs) : Option (Bool) :=
  if s1.length ≤ 1000000000 then forL (fun (k : Nat) (x : UInt8) (s : Unit) => gateref2_only_L1 some2 k x) (fun (s : Unit) => gateref2_only_E1) 0 s1 () else none
noncomputable def gateref2_BodyOf_J3 (v1 : Bs) (v2 : Bs) (r5 : (Bs × Bs × Bool)) (r7 : (Int × Int)) (v35 : Bool) : Option ((Bs × Bs) ⊕ (Bs × Int × Int)) :=
  if v35 then (some (.inr ([], 0, 9))) else ((sub? r5.2.1 0 r7.1).bind fun (l37 : Bs) => if v2.length + l37.length ≤ 1000000000 then ((sub? r5.2.1 (wr (r7.1 + 2)) (r5.2.1.length : Int)).bind fun (l40 : Bs) => if decide (r7.1 = 0) then (some (.inr ((v2 ++ l37), wr ((v1.length : Int) - (l40.length : Int)), 0))) else (some (.inl ((v2 ++ l37), l40)))) else none)
noncomputable def gateref2_BodyOf_J2 (v1 : Bs) (v2 : Bs) (r5 : (Bs × Bs × Bool)) (r7 : (Int × Int)) (v27 : Bool) : Option ((Bs × Bs) ⊕ (Bs × Int × Int)) :=
  if v27 then (some (.inr ([], 0, 9))) else (if decide (20000 < (wr ((v2.length : Int) + r7.1))) then (some (.inr ([], 0, 2))) else (if decide ((r5.2.1.length : Int) < (wr (r7.1 + 2))) then (gateref2_BodyOf_J3 v1 v2 r5 r7 true) else ((sub? r5.2.1 r7.1 (wr (r7.1 + 2))).bind fun (l32 : Bs) => gateref2_BodyOf_J3 v1 v2 r5 r7 (decide (l32 ≠ [13, 10])))))
noncomputable def gateref2_BodyOf_L1 (v1 : Bs) (v2 : Bs) (v3 : Bs) : Option ((Bs × Bs) ⊕ (Bs × Int × Int)) :=
  (m_strings_Cut v3 [13, 10]).bind fun (r5 : (Bs × Bs × Bool)) => (m_strconv_ParseInt r5.1 16 64).bind fun (r7 : (Int × Int)) => if !r5.2.2 then (gateref2_BodyOf_J2 v1 v2 r5 r7 true) else (if decide (r7.2 ≠ 0) then (gateref2_BodyOf_J2 v1 v2 r5 r7 true) else ((m_gateref2_in (r5.1.length : Int) 1 8).bind fun (r13 : (Bool)) => if !r13 then (gateref2_BodyOf_J2 v1 v2 r5 r7 true) else ((m_gateref2_only r5.1 [48, 49, 50, 51, 52, 53, 54, 55, 56, 57, 97, 98, 99, 100, 101, 102]).bind fun (r17 : (Bool)) => if !r17 then (gateref2_BodyOf_J2 v1 v2 r5 r7 true) else ((m_strconv_FormatInt r7.1 16).bind fun (r21 : (Bs)) => gateref2_BodyOf_J2 v1 v2 r5 r7 (decide (r5.1 ≠ r21))))))
noncomputable def m_gateref2_BodyOf (v1 : Bs) : Option (Bs × Int × Int) :=
  iter (fun (s : Bs × Bs) => gateref2_BodyOf_L1 v1 s.1 s.2) ([], v1)
noncomputable def message_isRange_J2 (v13 : Bool) : Option (Unit ⊕ (Bool)) :=
  if v13 then (some (.inr false)) else (some (.inl ()))
noncomputable def message_isRange_L1 (low2 : Int) (high3 : Int) (k4 : Nat) (x7 : UInt8) : Option (Unit ⊕ (Bool)) :=
  if decide ((x7.toNat : Int) < low2) then (message_isRange_J2 true) else (message_isRange_J2 (decide (high3 < (x7.toNat : Int))))
noncomputable def message_isRange_E1 : Option (Bool) :=
  some true
noncomputable def m_message_isRange (s1 : Bs) (low2 : Int) (high3 : Int) : Option (Bool) :=
  if s1.length ≤ 1000000000 then forL (fun (k : Nat) (x : UInt8) (s : Unit) => message_isRange_L1 low2 high3 k x) (fun (s : Unit) => message_isRange_E1) 0 s1 () else none
noncomputable def message_PathFault_J1 (v17 : Bool) : Option (Int) :=
  if v17 then some 3 else some 0
noncomputable def m_message_PathFault (s1 : Bs) : Option (Int) :=
  if decide (1000 < (s1.length : Int)) then (message_PathFault_J1 true) else ((m_strings_HasPrefix s1 [47]).bind fun (r4 : (Bool)) => if !r4 then (message_PathFault_J1 true) else ((m_message_isRange s1 33 126).bind fun (r8 : (Bool)) => if !r8 then (message_PathFault_J1 true) else ((m_strings_ContainsAny s1 [63, 35]).bind fun (r12 : (Bool)) => message_PathFault_J1 r12)))
noncomputable def m_strings_Builder_WriteByte (l1 : (List Int)) (c2 : Int) : Option (Int × (List Int)) :=
  if l1.length + 1 ≤ 1000000000 then (some (0, (l1 ++ [c2]))) else none
noncomputable def m_message_isDigit (c1 : Int) : Option (Bool) :=
  some ((decide (48 ≤ c1)) && (decide (c1 ≤ 57)))
noncomputable def m_message_isHex (c1 : Int) : Option (Bool) :=
  (m_message_isDigit c1).bind fun (r2 : (Bool)) => some ((r2 || ((decide (97 ≤ c1)) && (decide (c1 ≤ 102)))) || ((decide (65 ≤ c1)) && (decide (c1 ≤ 70))))
noncomputable def message_isUnit_J1 (v17 : Bool) : Option (Bool) :=
  some v17
noncomputable def m_message_isUnit (s1 : Bs) (v2 : Int) : Option (Bool) :=
  if decide ((wr (v2 + 2)) < (s1.length : Int)) then ((at? s1 (wr (v2 + 1))).bind fun (x5 : UInt8) => (m_message_isHex (x5.toNat : Int)).bind fun (r7 : (Bool)) => if r7 then ((at? s1 (wr (v2 + 2))).bind fun (x11 : UInt8) => (m_message_isHex (x11.toNat : Int)).bind fun (r13 : (Bool)) => message_isUnit_J1 r13) else (message_isUnit_J1 false)) else (message_isUnit_J1 false)
noncomputable def m_strconv_ParseUint (s1 : Bs) (base2 : Int) (bitSize3 : Int) : Option (Int × Int) :=
  (m_internal_strconv_ParseUint s1 base2 bitSize3).bind fun (r4 : (Int × Int)) => if decide (r4.2 ≠ 0) then ((m_strconv_toError [80, 97, 114, 115, 101, 85, 105, 110, 116] s1 base2 bitSize3 r4.2).bind fun (r7 : (Int)) => some (r4.1, r7)) else (some (r4.1, 0))
noncomputable def m_message_unit (s1 : Bs) (v2 : Int) : Option (Int) :=
  (sub? s1 (wr (v2 + 1)) (wr (v2 + 3))).bind fun (l3 : Bs) => (m_strconv_ParseUint l3 16 8).bind fun (r5 : (Int × Int)) => if decide (r5.2 ≠ 0) then some 0 else (some (IntKind.wrap .u8 r5.1))
noncomputable def m_message_isLetter (c1 : Int) : Option (Bool) :=
  some (((decide (97 ≤ c1)) && (decide (c1 ≤ 122))) || ((decide (65 ≤ c1)) && (decide (c1 ≤ 90))))
noncomputable def message_isFree_J1 (v14 : Bool) : Option (Bool) :=
  some v14
noncomputable def m_message_isFree (c1 : Int) : Option (Bool) :=
  (m_message_isLetter c1).bind fun (r2 : (Bool)) => if r2 then (message_isFree_J1 true) else ((m_message_isDigit c1).bind fun (r6 : (Bool)) => if r6 then (message_isFree_J1 true) else ((m_strings_IndexByte [45, 46, 95, 126] c1).bind fun (r10 : (Int)) => message_isFree_J1 (decide (0 ≤ r10))))
noncomputable def m_message_percent (c1 : Int) : Option (Bs) :=
  (at? [48, 49, 50, 51, 52, 53, 54, 55, 56, 57, 65, 66, 67, 68, 69, 70] (shr_ .u8 c1 4)).bind fun (x2 : UInt8) => (at? [48, 49, 50, 51, 52, 53, 54, 55, 56, 57, 65, 66, 67, 68, 69, 70] (and_ .u8 c1 15)).bind fun (x4 : UInt8) => some (strN [37, (x2.toNat : Int), (x4.toNat : Int)])
noncomputable def message_normalUnits_J3 (i26 : Int) (l27 : (List Int)) : Option ((Int × (List Int)) ⊕ (Bs × Bool)) :=
  some (.inl (wr (i26 + 1), l27))
noncomputable def message_normalUnits_J4 (i2 : Int) (l25 : (List Int)) : Option ((Int × (List Int)) ⊕ (Bs × Bool)) :=
  message_normalUnits_J3 (wr (i2 + 2)) l25
noncomputable def message_normalUnits_J1 (l28 : (List Int)) : Option (Bs × Bool) :=
  if byR l28 = true then (some ((strN l28), true)) else none
noncomputable def message_normalUnits_L2 (s1 : Bs) (i2 : Int) (l3 : (List Int)) : Option ((Int × (List Int)) ⊕ (Bs × Bool)) :=
  if decide (i2 < (s1.length : Int)) then ((at? s1 i2).bind fun (x6 : UInt8) => if decide ((x6.toNat : Int) ≠ 37) then ((m_strings_Builder_WriteByte l3 (x6.toNat : Int)).bind fun (r9 : (Int × (List Int))) => message_normalUnits_J3 i2 r9.2) else ((m_message_isUnit s1 i2).bind fun (r11 : (Bool)) => if !r11 then (some (.inr ([], false))) else ((m_message_unit s1 i2).bind fun (r14 : (Int)) => (m_message_isFree r14).bind fun (r16 : (Bool)) => if r16 then ((m_strings_Builder_WriteByte l3 r14).bind fun (r19 : (Int × (List Int))) => message_normalUnits_J4 i2 r19.2) else ((m_message_percent r14).bind fun (r21 : (Bs)) => (m_strings_Builder_WriteString l3 r21).bind fun (r23 : (Int × Int × (List Int))) => message_normalUnits_J4 i2 r23.2.2)))) else (Option.map .inr (message_normalUnits_J1 l3))
noncomputable def m_message_normalUnits (s1 : Bs) : Option (Bs × Bool) :=
  iter (fun (s : Int × (List Int)) => message_normalUnits_L2 s1 s.1 s.2) (0, ([] : List Int))
noncomputable def message_NormalPath_J2 (out29 : (List Bs)) : Option ((List Bs) ⊕ (Bs × Int)) :=
  some (.inl out29)
noncomputable def message_NormalPath_J3 (r10 : ((List Bs))) (k13 : Nat) (out26 : (List Bs)) : Option ((List Bs) ⊕ (Bs × Int)) :=
  if decide ((k13 : Int) = (wr ((r10.length : Int) - 1))) then (if out26.length + 1 ≤ 1000000000 then (message_NormalPath_J2 (out26 ++ ([[]]))) else none) else (message_NormalPath_J2 out26)
noncomputable def message_NormalPath_L1 (r10 : ((List Bs))) (k13 : Nat) (x16 : Bs) (l12 : (List Bs)) : Option ((List Bs) ⊕ (Bs × Int)) :=
  if decide (x16 = [46]) then (message_NormalPath_J3 r10 k13 l12) else (if decide (x16 = [46, 46]) then (if (0 : Int) ≤ (max (wr ((l12.length : Int) - 1)) 0) ∧ (max (wr ((l12.length : Int) - 1)) 0) ≤ (l12.length : Int) then (message_NormalPath_J3 r10 k13 (l12.take (max (wr ((l12.length : Int) - 1)) 0).toNat)) else none) else (if l12.length + 1 ≤ 1000000000 then (message_NormalPath_J2 (l12 ++ [x16])) else none))
noncomputable def message_NormalPath_E1 (l12 : (List Bs)) : Option (Bs × Int) :=
  (m_strings_Join l12 [47]).bind fun (r17 : (Bs)) => if [47].length + r17.length ≤ 1000000000 then (some (([47] ++ r17), 0)) else none
noncomputable def m_message_NormalPath (s1 : Bs) : Option (Bs × Int) :=
  (m_message_PathFault s1).bind fun (r2 : (Int)) => if decide (r2 ≠ 0) then (some ([], r2)) else ((m_message_normalUnits s1).bind fun (r5 : (Bs × Bool)) => if !r5.2 then (some ([], 9)) else ((sub? r5.1 1 (r5.1.length : Int)).bind fun (l8 : Bs) => (m_strings_Split l8 [47]).bind fun (r10 : ((List Bs))) => if r10.length ≤ 1000000000 then forL (fun (k : Nat) (x : Bs) (s : (List Bs)) => message_NormalPath_L1 r10 k x s) (fun (s : (List Bs)) => message_NormalPath_E1 s) 0 r10 [] else none))
noncomputable def m_gatelaw2_spoken  : Option (Bool) :=
  (m_message_NormalPath [47, 97, 47, 46, 46, 47, 98]).bind fun (r1 : (Bs × Int)) => some ((decide (r1.2 = 0)) && (decide (r1.1 = [47, 98])))
noncomputable def gatelaw2_ChunksRead_J2 (v45 : Bool) : Option (Bool) :=
  some v45
noncomputable def gatelaw2_ChunksRead_J1 (r9 : (Bs × S_gatemake_Stream)) (r11 : (Bs × Int)) (r13 : (Bs × Int × Int)) (r19 : (Int)) (v25 : Bs) : Option (Bool) :=
  (m_gateref2_BodyOf r9.1).bind fun (r26 : (Bs × Int × Int)) => if decide (r11.1 = v25) then (if decide (r11.2 = r19) then (if decide (r13.1 = r26.1) then (if decide (r13.2.1 = r26.2.1) then (if decide (r13.2.2 = r26.2.2) then ((m_gatelaw2_spoken ).bind fun (r38 : (Bool)) => gatelaw2_ChunksRead_J2 r38) else (gatelaw2_ChunksRead_J2 false)) else (gatelaw2_ChunksRead_J2 false)) else (gatelaw2_ChunksRead_J2 false)) else (gatelaw2_ChunksRead_J2 false)) else (gatelaw2_ChunksRead_J2 false)
noncomputable def m_gatelaw2_ChunksRead (v1 : (List Int)) : Option (Bool) :=
  if 0 ≤ (40 : Int) ∧ (40 : Int) ≤ 1000000000 then (if 0 ≤ (20000 : Int) ∧ (20000 : Int) ≤ 1000000000 then (if 0 ≤ (20001 : Int) ∧ (20001 : Int) ≤ 1000000000 then ((m_gatemake_Stream_Some (S_gatemake_Stream.mk v1 0) ([[], [104, 101, 108, 108, 111], (strN (List.replicate ((40 : Int).toNat) (0 : Int))), (strN (List.replicate ((20000 : Int).toNat) (0 : Int))), (strN (List.replicate ((20001 : Int).toNat) (0 : Int)))])).bind fun (r5 : (Bs × S_gatemake_Stream)) => (m_gatemake_Stream_Pick r5.2 [1, 3, 16, 20000, 0, 20001, 7000]).bind fun (r7 : (Int × S_gatemake_Stream)) => (m_gatemake_Stream_ChunkText r7.2).bind fun (r9 : (Bs × S_gatemake_Stream)) => (m_message_Chunk r5.1 r7.1).bind fun (r11 : (Bs × Int)) => (m_message_Unchunk r9.1).bind fun (r13 : (Bs × Int × Int)) => (m_gatelaw2_when ((decide (r7.1 < 1)) || (decide (20000 < r7.1))) 1).bind fun (r15 : (Int)) => (m_gatelaw2_when (decide (20000 < (r5.1.length : Int))) 2).bind fun (r17 : (Int)) => (m_gatelaw2_errs [r15, r17]).bind fun (r19 : (Int)) => if ((decide (r19 = 0)) && ((decide (100 < r7.1)) || (decide ((r5.1.length : Int) < 100)))) then ((m_gateref2_ChunksOf r5.1 r7.1).bind fun (r22 : (Bs)) => gatelaw2_ChunksRead_J1 r9 r11 r13 r19 r22) else (if decide (r19 = 0) then (gatelaw2_ChunksRead_J1 r9 r11 r13 r19 r11.1) else (gatelaw2_ChunksRead_J1 r9 r11 r13 r19 []))) else none) else none) else none
end Go.Proofs.YtbejggfkfaibeaaGreatDoor
