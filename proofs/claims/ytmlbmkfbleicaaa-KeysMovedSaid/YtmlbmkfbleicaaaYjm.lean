/- Plain models of functions. Printed by a program. -/
import Derived.Test.YtmlbmkfbleicaaaMc
namespace Go.Proofs.Ytmlbmkfbleicaaa
set_option linter.unusedVariables false
set_option maxRecDepth 20000
structure S_gatemake_Stream where
  L : (List Int)
  at_ : Int
structure S_api_Instance where
  Key : Bs
  Weight : Int
noncomputable def gatemake_Below_J1 (x6 : Int) : Option (Int) :=
  some x6
noncomputable def m_gatemake_Below (x1 : Int) (n2 : Int) : Option (Int) :=
  if decide (n2 < 1) then some 0 else (if n2 ≠ 0 then (if decide ((Int.tmod x1 n2) < 0) then (gatemake_Below_J1 (wr ((Int.tmod x1 n2) + n2))) else (gatemake_Below_J1 (Int.tmod x1 n2))) else none)
noncomputable def m_gatemake_Stream_Next (s1 : S_gatemake_Stream) (n2 : Int) : Option (Int × S_gatemake_Stream) :=
  if decide ((s1.L.length : Int) = 0) then ((m_gatemake_Below (wr ((wr (s1.at_ + 1)) * 7919)) n2).bind fun (r4 : (Int)) => some (r4, (S_gatemake_Stream.mk s1.L (wr (s1.at_ + 1))))) else (if (s1.L.length : Int) ≠ 0 then (if ((0 : Int) ≤ (wr ((wr (s1.at_ + 1)) - 1)) ∧ (wr ((wr (s1.at_ + 1)) - 1)) ≤ 9223372036854775807) ∧ (0 : Int) < (s1.L.length : Int) then ((at? s1.L (Int.tmod (wr ((wr (s1.at_ + 1)) - 1)) (s1.L.length : Int))).bind fun (x8 : Int) => (m_gatemake_Below x8 1073741824).bind fun (r10 : (Int)) => (m_gatemake_Below (wr (r10 + (wr (((wr ((wr (s1.at_ + 1)) - 1)) / (s1.L.length : Int)) * (wr (7919 + (Int.tmod (wr ((wr (s1.at_ + 1)) - 1)) (s1.L.length : Int)))))))) n2).bind fun (r12 : (Int)) => some (r12, (S_gatemake_Stream.mk s1.L (wr (s1.at_ + 1))))) else none) else none)
noncomputable def m_gatemake_Stream_Flip (s1 : S_gatemake_Stream) (n2 : Int) : Option (Bool × S_gatemake_Stream) :=
  (m_gatemake_Stream_Next s1 n2).bind fun (r3 : (Int × S_gatemake_Stream)) => some (decide (r3.1 = 0), r3.2)
noncomputable def m_gatemake_Stream_Pick (s1 : S_gatemake_Stream) (l2 : (List Int)) : Option (Int × S_gatemake_Stream) :=
  (m_gatemake_Stream_Next s1 (l2.length : Int)).bind fun (r3 : (Int × S_gatemake_Stream)) => (at? l2 r3.1).bind fun (x5 : Int) => some (x5, r3.2)
noncomputable def gatemake_Stream_RightInstances_J2 (out28 : (List S_api_Instance)) (c29 : (List Int)) (c30 : Int) : Option (((List Int) × Int × (List S_api_Instance)) ⊕ ((List S_api_Instance) × S_gatemake_Stream)) :=
  some (.inl (c29, c30, out28))
noncomputable def gatemake_Stream_RightInstances_J3 (l4 : (List S_api_Instance)) (x8 : Bs) (v21 : Bool) (c22 : (List Int)) (c23 : Int) : Option (((List Int) × Int × (List S_api_Instance)) ⊕ ((List S_api_Instance) × S_gatemake_Stream)) :=
  if v21 then ((m_gatemake_Stream_Pick (S_gatemake_Stream.mk c22 c23) [1, 1, 2, 3, 5]).bind fun (r25 : (Int × S_gatemake_Stream)) => if l4.length + 1 ≤ 1000000000 then (gatemake_Stream_RightInstances_J2 (l4 ++ [(S_api_Instance.mk x8 r25.1)]) r25.2.L r25.2.at_) else none) else (gatemake_Stream_RightInstances_J2 l4 c22 c23)
noncomputable def gatemake_Stream_RightInstances_L1 (k5 : Nat) (x8 : Bs) (c2 : (List Int)) (c3 : Int) (l4 : (List S_api_Instance)) : Option (((List Int) × Int × (List S_api_Instance)) ⊕ ((List S_api_Instance) × S_gatemake_Stream)) :=
  if decide ((l4.length : Int) = 0) then (if decide (x8 = [105, 100]) then (gatemake_Stream_RightInstances_J3 l4 x8 true c2 c3) else ((m_gatemake_Stream_Flip (S_gatemake_Stream.mk c2 c3) 4).bind fun (r15 : (Bool × S_gatemake_Stream)) => gatemake_Stream_RightInstances_J3 l4 x8 (!r15.1) r15.2.L r15.2.at_)) else ((m_gatemake_Stream_Flip (S_gatemake_Stream.mk c2 c3) 4).bind fun (r19 : (Bool × S_gatemake_Stream)) => gatemake_Stream_RightInstances_J3 l4 x8 (!r19.1) r19.2.L r19.2.at_)
noncomputable def gatemake_Stream_RightInstances_E1 (c2 : (List Int)) (c3 : Int) (l4 : (List S_api_Instance)) : Option ((List S_api_Instance) × S_gatemake_Stream) :=
  some (l4, (S_gatemake_Stream.mk c2 c3))
noncomputable def m_gatemake_Stream_RightInstances (s1 : S_gatemake_Stream) : Option ((List S_api_Instance) × S_gatemake_Stream) :=
  if ([[105, 97], [105, 98], [105, 99], [105, 100]]).length ≤ 1000000000 then forL (fun (k : Nat) (x : Bs) (s : (List Int) × Int × (List S_api_Instance)) => gatemake_Stream_RightInstances_L1 k x s.1 s.2.1 s.2.2) (fun (s : (List Int) × Int × (List S_api_Instance)) => gatemake_Stream_RightInstances_E1 s.1 s.2.1 s.2.2) 0 ([[105, 97], [105, 98], [105, 99], [105, 100]]) (s1.L, s1.at_, []) else none
noncomputable def m_gatemake_Stream_Some (s1 : S_gatemake_Stream) (l2 : (List Bs)) : Option (Bs × S_gatemake_Stream) :=
  (m_gatemake_Stream_Next s1 (l2.length : Int)).bind fun (r3 : (Int × S_gatemake_Stream)) => (at? l2 r3.1).bind fun (x5 : Bs) => some (x5, r3.2)
noncomputable def m_gatemake_Stream_Range (s1 : S_gatemake_Stream) (low2 : Int) (high3 : Int) : Option (Int × S_gatemake_Stream) :=
  if decide (high3 < low2) then (some (low2, s1)) else ((m_gatemake_Stream_Next s1 (wr ((wr (high3 - low2)) + 1))).bind fun (r5 : (Int × S_gatemake_Stream)) => some (wr (low2 + r5.1), r5.2))
noncomputable def m_gatemake_Stream_Odd (s1 : S_gatemake_Stream) (low2 : Int) (high3 : Int) : Option (Int × S_gatemake_Stream) :=
  (m_gatemake_Stream_Flip s1 12).bind fun (r4 : (Bool × S_gatemake_Stream)) => if r4.1 then ((m_gatemake_Stream_Pick r4.2 [wr (low2 - 1), wr (high3 + 1), low2, high3, (-1099511627776), 1099511627776]).bind fun (r7 : (Int × S_gatemake_Stream)) => some (r7.1, r7.2)) else ((m_gatemake_Stream_Range r4.2 low2 high3).bind fun (r9 : (Int × S_gatemake_Stream)) => some (r9.1, r9.2))
noncomputable def gatemake_Stream_Instances_J1 (out15 : (List S_api_Instance)) (c16 : (List Int)) (c17 : Int) : Option ((List S_api_Instance) × S_gatemake_Stream) :=
  (m_gatemake_Stream_Flip (S_gatemake_Stream.mk c16 c17) 25).bind fun (r18 : (Bool × S_gatemake_Stream)) => if r18.1 then (some ([], r18.2)) else (some (out15, r18.2))
noncomputable def m_gatemake_Stream_Instances (s1 : S_gatemake_Stream) : Option ((List S_api_Instance) × S_gatemake_Stream) :=
  (m_gatemake_Stream_RightInstances s1).bind fun (r2 : ((List S_api_Instance) × S_gatemake_Stream)) => (m_gatemake_Stream_Flip r2.2 15).bind fun (r4 : (Bool × S_gatemake_Stream)) => if r4.1 then ((m_gatemake_Stream_Next r4.2 (r2.1.length : Int)).bind fun (r7 : (Int × S_gatemake_Stream)) => (at? r2.1 r7.1).bind fun (x9 : S_api_Instance) => (m_gatemake_Stream_Some r7.2 ([x9.Key, [], [65], [105, 97]])).bind fun (r11 : (Bs × S_gatemake_Stream)) => (m_gatemake_Stream_Odd r11.2 1 100).bind fun (r13 : (Int × S_gatemake_Stream)) => gatemake_Stream_Instances_J1 ((r2.1.set r7.1.toNat (S_api_Instance.mk r11.1 x9.Weight)).set r7.1.toNat (S_api_Instance.mk r11.1 r13.1)) r13.2.L r13.2.at_) else (gatemake_Stream_Instances_J1 r2.1 r4.2.L r4.2.at_)
noncomputable def math_bits_Len32_J2 (x6 : Int) (n7 : Int) : Option (Int) :=
  (at? [0, 1, 2, 2, 3, 3, 3, 3, 4, 4, 4, 4, 4, 4, 4, 4, 5, 5, 5, 5, 5, 5, 5, 5, 5, 5, 5, 5, 5, 5, 5, 5, 6, 6, 6, 6, 6, 6, 6, 6, 6, 6, 6, 6, 6, 6, 6, 6, 6, 6, 6, 6, 6, 6, 6, 6, 6, 6, 6, 6, 6, 6, 6, 6, 7, 7, 7, 7, 7, 7, 7, 7, 7, 7, 7, 7, 7, 7, 7, 7, 7, 7, 7, 7, 7, 7, 7, 7, 7, 7, 7, 7, 7, 7, 7, 7, 7, 7, 7, 7, 7, 7, 7, 7, 7, 7, 7, 7, 7, 7, 7, 7, 7, 7, 7, 7, 7, 7, 7, 7, 7, 7, 7, 7, 7, 7, 7, 7, 8, 8, 8, 8, 8, 8, 8, 8, 8, 8, 8, 8, 8, 8, 8, 8, 8, 8, 8, 8, 8, 8, 8, 8, 8, 8, 8, 8, 8, 8, 8, 8, 8, 8, 8, 8, 8, 8, 8, 8, 8, 8, 8, 8, 8, 8, 8, 8, 8, 8, 8, 8, 8, 8, 8, 8, 8, 8, 8, 8, 8, 8, 8, 8, 8, 8, 8, 8, 8, 8, 8, 8, 8, 8, 8, 8, 8, 8, 8, 8, 8, 8, 8, 8, 8, 8, 8, 8, 8, 8, 8, 8, 8, 8, 8, 8, 8, 8, 8, 8, 8, 8, 8, 8, 8, 8, 8, 8, 8, 8, 8, 8, 8, 8, 8, 8, 8, 8, 8, 8, 8, 8, 8, 8, 8, 8, 8, 8] (IntKind.wrap .u8 x6)).bind fun (x8 : UInt8) => some (wr (n7 + (IntKind.wrap .i64 (x8.toNat : Int))))
noncomputable def math_bits_Len32_J1 (x3 : Int) (n4 : Int) : Option (Int) :=
  if decide (256 ≤ x3) then (math_bits_Len32_J2 (shr_ .u32 x3 8) (wr (n4 + 8))) else (math_bits_Len32_J2 x3 n4)
noncomputable def m_math_bits_Len32 (x1 : Int) : Option (Int) :=
  if decide (65536 ≤ x1) then (math_bits_Len32_J1 (shr_ .u32 x1 16) 16) else (math_bits_Len32_J1 x1 0)
noncomputable def math_bits_Len64_J3 (x9 : Int) (n10 : Int) : Option (Int) :=
  (at? [0, 1, 2, 2, 3, 3, 3, 3, 4, 4, 4, 4, 4, 4, 4, 4, 5, 5, 5, 5, 5, 5, 5, 5, 5, 5, 5, 5, 5, 5, 5, 5, 6, 6, 6, 6, 6, 6, 6, 6, 6, 6, 6, 6, 6, 6, 6, 6, 6, 6, 6, 6, 6, 6, 6, 6, 6, 6, 6, 6, 6, 6, 6, 6, 7, 7, 7, 7, 7, 7, 7, 7, 7, 7, 7, 7, 7, 7, 7, 7, 7, 7, 7, 7, 7, 7, 7, 7, 7, 7, 7, 7, 7, 7, 7, 7, 7, 7, 7, 7, 7, 7, 7, 7, 7, 7, 7, 7, 7, 7, 7, 7, 7, 7, 7, 7, 7, 7, 7, 7, 7, 7, 7, 7, 7, 7, 7, 7, 8, 8, 8, 8, 8, 8, 8, 8, 8, 8, 8, 8, 8, 8, 8, 8, 8, 8, 8, 8, 8, 8, 8, 8, 8, 8, 8, 8, 8, 8, 8, 8, 8, 8, 8, 8, 8, 8, 8, 8, 8, 8, 8, 8, 8, 8, 8, 8, 8, 8, 8, 8, 8, 8, 8, 8, 8, 8, 8, 8, 8, 8, 8, 8, 8, 8, 8, 8, 8, 8, 8, 8, 8, 8, 8, 8, 8, 8, 8, 8, 8, 8, 8, 8, 8, 8, 8, 8, 8, 8, 8, 8, 8, 8, 8, 8, 8, 8, 8, 8, 8, 8, 8, 8, 8, 8, 8, 8, 8, 8, 8, 8, 8, 8, 8, 8, 8, 8, 8, 8, 8, 8, 8, 8, 8, 8, 8, 8] (IntKind.wrap .u8 x9)).bind fun (x11 : UInt8) => some (wr (n10 + (IntKind.wrap .i64 (x11.toNat : Int))))
noncomputable def math_bits_Len64_J2 (x6 : Int) (n7 : Int) : Option (Int) :=
  if decide (256 ≤ x6) then (math_bits_Len64_J3 (shr_ .u64 x6 8) (wr (n7 + 8))) else (math_bits_Len64_J3 x6 n7)
noncomputable def math_bits_Len64_J1 (x3 : Int) (n4 : Int) : Option (Int) :=
  if decide (65536 ≤ x3) then (math_bits_Len64_J2 (shr_ .u64 x3 16) (wr (n4 + 16))) else (math_bits_Len64_J2 x3 n4)
noncomputable def m_math_bits_Len64 (x1 : Int) : Option (Int) :=
  if decide (4294967296 ≤ x1) then (math_bits_Len64_J1 (shr_ .u64 x1 32) 32) else (math_bits_Len64_J1 x1 0)
noncomputable def m_math_bits_Len (x1 : Int) : Option (Int) :=
  if false then ((m_math_bits_Len32 (IntKind.wrap .u32 x1)).bind fun (r3 : (Int)) => some r3) else ((m_math_bits_Len64 x1).bind fun (r5 : (Int)) => some r5)
noncomputable def slices_insertionSortCmpFunc_api_Instance__J2 (i4 : Int) (data28 : (List S_api_Instance)) : Option ((Int × (List S_api_Instance)) ⊕ ((List S_api_Instance))) :=
  some (.inl (wr (i4 + 1), data28))
noncomputable def slices_insertionSortCmpFunc_api_Instance__J4 (i4 : Int) (j8 : Int) (l9 : (List S_api_Instance)) (v20 : Bool) : Option ((Int × (List S_api_Instance)) ⊕ ((Int × (List S_api_Instance)) ⊕ ((List S_api_Instance)))) :=
  if v20 then ((at? l9 (wr (j8 - 1))).bind fun (x22 : S_api_Instance) => (at? l9 j8).bind fun (x24 : S_api_Instance) => (at? (l9.set j8.toNat x22) (wr (j8 - 1))).bind fun (x26 : S_api_Instance) => some (.inl (wr (j8 - 1), ((l9.set j8.toNat x22).set ((wr (j8 - 1)).toNat) x24)))) else (Option.map .inr (slices_insertionSortCmpFunc_api_Instance__J2 i4 l9))
noncomputable def slices_insertionSortCmpFunc_api_Instance__L3 (a2 : Int) (p3 : S_api_Instance → S_api_Instance → Option (Int)) (i4 : Int) (j8 : Int) (l9 : (List S_api_Instance)) : Option ((Int × (List S_api_Instance)) ⊕ ((Int × (List S_api_Instance)) ⊕ ((List S_api_Instance)))) :=
  if decide (a2 < j8) then ((at? l9 j8).bind fun (x13 : S_api_Instance) => (at? l9 (wr (j8 - 1))).bind fun (x15 : S_api_Instance) => (p3 x13 x15).bind fun (r17 : Int) => slices_insertionSortCmpFunc_api_Instance__J4 i4 j8 l9 (decide (r17 < 0))) else (slices_insertionSortCmpFunc_api_Instance__J4 i4 j8 l9 false)
noncomputable def slices_insertionSortCmpFunc_api_Instance__L1 (a2 : Int) (b3 : Int) (p3 : S_api_Instance → S_api_Instance → Option (Int)) (i4 : Int) (l5 : (List S_api_Instance)) : Option ((Int × (List S_api_Instance)) ⊕ ((List S_api_Instance))) :=
  if decide (i4 < b3) then (iter (fun (s : Int × (List S_api_Instance)) => slices_insertionSortCmpFunc_api_Instance__L3 a2 p3 i4 s.1 s.2) (i4, l5)) else (some (.inr l5))
noncomputable def m_slices_insertionSortCmpFunc_api_Instance_ (data1 : (List S_api_Instance)) (a2 : Int) (b3 : Int) (p3 : S_api_Instance → S_api_Instance → Option (Int)) : Option ((List S_api_Instance)) :=
  iter (fun (s : Int × (List S_api_Instance)) => slices_insertionSortCmpFunc_api_Instance__L1 a2 b3 p3 s.1 s.2) (wr (a2 + 1), data1)
noncomputable def slices_pdqsortCmpFunc_api_Instance__L1 (v1 : (List S_api_Instance)) (p4 : S_api_Instance → S_api_Instance → Option (Int)) (v5 : Int) (v6 : Int) (v7 : Int) (v8 : Bool) (v9 : Bool) : Option ((Int × Int × Int × Bool × Bool) ⊕ ((List S_api_Instance))) :=
  if decide ((wr (v6 - v5)) ≤ 12) then ((m_slices_insertionSortCmpFunc_api_Instance_ v1 v5 v6 p4).bind fun (r12 : ((List S_api_Instance))) => if r12.length = v1.length then (some (.inr r12)) else none) else (if decide (v7 = 0) then none else none)
noncomputable def m_slices_pdqsortCmpFunc_api_Instance_ (v1 : (List S_api_Instance)) (v2 : Int) (v3 : Int) (v4 : Int) (p4 : S_api_Instance → S_api_Instance → Option (Int)) : Option ((List S_api_Instance)) :=
  iter (fun (s : Int × Int × Int × Bool × Bool) => slices_pdqsortCmpFunc_api_Instance__L1 v1 p4 s.1 s.2.1 s.2.2.1 s.2.2.2.1 s.2.2.2.2) (v2, v3, v4, true, true)
noncomputable def m_slices_SortFunc_L_api_Instance_api_Instance_ (x1 : (List S_api_Instance)) (p1 : S_api_Instance → S_api_Instance → Option (Int)) : Option ((List S_api_Instance)) :=
  (m_math_bits_Len (IntKind.wrap .u64 (x1.length : Int))).bind fun (r2 : (Int)) => (m_slices_pdqsortCmpFunc_api_Instance_ x1 0 (x1.length : Int) r2 p1).bind fun (r4 : ((List S_api_Instance))) => if r4.length = x1.length then some r4 else none
noncomputable def m_cmp_isNaN_int_ (x1 : Int) : Option (Bool) :=
  some (decide (x1 ≠ x1))
noncomputable def m_cmp_Compare_int_ (x1 : Int) (y2 : Int) : Option (Int) :=
  (m_cmp_isNaN_int_ x1).bind fun (r3 : (Bool)) => (m_cmp_isNaN_int_ y2).bind fun (r5 : (Bool)) => if r3 then (if r5 then some 0 else (some (-1))) else (if r5 then some 1 else (if decide (x1 < y2) then (some (-1)) else (if decide (y2 < x1) then some 1 else some 0)))
noncomputable def cmp_Or_int__L1 (k2 : Nat) (x5 : Int) : Option (Unit ⊕ (Int)) :=
  if decide (x5 ≠ 0) then (some (.inr x5)) else (some (.inl ()))
noncomputable def cmp_Or_int__E1 : Option (Int) :=
  some 0
noncomputable def m_cmp_Or_int_ (vals1 : (List Int)) : Option (Int) :=
  if vals1.length ≤ 1000000000 then forL (fun (k : Nat) (x : Int) (s : Unit) => cmp_Or_int__L1 k x) (fun (s : Unit) => cmp_Or_int__E1) 0 vals1 () else none
noncomputable def m_upstream_ordered_1 (a1 : S_api_Instance) (b2 : S_api_Instance) (c3 : (Nat × (Bs → Int))) : Option (Int) :=
  if b2.Key.length ≤ 1000000000 then (if a1.Key.length ≤ 1000000000 then ((m_cmp_Compare_int_ (c3.2 b2.Key) (c3.2 a1.Key)).bind fun (r6 : (Int)) => (m_strings_Compare a1.Key b2.Key).bind fun (r8 : (Int)) => (m_cmp_Or_int_ [r6, r8]).bind fun (r10 : (Int)) => some r10) else none) else none
noncomputable def upstream_Hash_L1 (k3 : Nat) (x6 : UInt8) (h2 : Int) : Option (Int ⊕ (Int)) :=
  some (.inl (IntKind.wrap .u64 ((xor_ .u64 h2 (IntKind.wrap .u64 (x6.toNat : Int))) * 1099511628211)))
noncomputable def upstream_Hash_E1 (h2 : Int) : Option (Int) :=
  some (xor_ .u64 h2 (shr_ .u64 h2 32))
noncomputable def m_upstream_Hash (s1 : Bs) : Option (Int) :=
  if s1.length ≤ 1000000000 then forL (fun (k : Nat) (x : UInt8) (s : Int) => upstream_Hash_L1 k x s) (fun (s : Int) => upstream_Hash_E1 s) 0 s1 14695981039346656037 else none
noncomputable def upstream_ordered_L1 (key2 : Bs) (k5 : Nat) (x8 : S_api_Instance) (m3 : (Bs → Int)) (m4 : Nat) : Option (((Bs → Int) × Nat) ⊕ ((List S_api_Instance))) :=
  if key2.length + [0].length ≤ 1000000000 then (if (key2 ++ [0]).length + x8.Key.length ≤ 1000000000 then ((m_upstream_Hash ((key2 ++ [0]) ++ x8.Key)).bind fun (r18 : (Int)) => if x8.Key.length ≤ 1000000000 ∧ m4 < 1000000 ∧ -9223372036854775808 ≤ wr ((IntKind.wrap .i64 (Int.tmod r18 1000003)) * x8.Weight) ∧ wr ((IntKind.wrap .i64 (Int.tmod r18 1000003)) * x8.Weight) ≤ 9223372036854775807 then (some (.inl ((upm m3 x8.Key (wr ((IntKind.wrap .i64 (Int.tmod r18 1000003)) * x8.Weight))), (m4 + 1)))) else none) else none) else none
noncomputable def upstream_ordered_E1 (l1 : (List S_api_Instance)) (m3 : (Bs → Int)) (m4 : Nat) : Option ((List S_api_Instance)) :=
  (m_slices_Clone l1).bind fun (r9 : ((List S_api_Instance))) => (m_slices_SortFunc_L_api_Instance_api_Instance_ r9 (fun (a0 : S_api_Instance) (a1 : S_api_Instance) => m_upstream_ordered_1 a0 a1 (m4, m3))).bind fun (r11 : ((List S_api_Instance))) => if r11.length = r9.length then some r11 else none
noncomputable def m_upstream_ordered (l1 : (List S_api_Instance)) (key2 : Bs) : Option ((List S_api_Instance)) :=
  if l1.length ≤ 1000000000 then forL (fun (k : Nat) (x : S_api_Instance) (s : (Bs → Int) × Nat) => upstream_ordered_L1 key2 k x s.1 s.2) (fun (s : (Bs → Int) × Nat) => upstream_ordered_E1 l1 s.1 s.2) 0 l1 ((fun _ => 0), 0) else none
noncomputable def m_upstream_keyFault (key1 : Bs) : Option (Int) :=
  if ((decide (key1 = [])) || (decide (40 < (key1.length : Int)))) then some 5 else some 0
noncomputable def kit_IsKey_L1 (i2 : Nat) (x5 : UInt8) : Option (Unit ⊕ (Bool)) :=
  if !(((decide (97 ≤ (x5.toNat : Int))) && (decide ((x5.toNat : Int) ≤ 122))) || ((decide (0 < (i2 : Int))) && ((((decide (48 ≤ (x5.toNat : Int))) && (decide ((x5.toNat : Int) ≤ 57))) || (decide ((x5.toNat : Int) = 45))) || (decide ((x5.toNat : Int) = 95))))) then (some (.inr false)) else (some (.inl ()))
noncomputable def kit_IsKey_E1 (s1 : Bs) : Option (Bool) :=
  some ((decide (s1 ≠ [])) && (decide ((s1.length : Int) ≤ 40)))
noncomputable def m_kit_IsKey (s1 : Bs) : Option (Bool) :=
  if s1.length ≤ 1000000000 then forL (fun (k : Nat) (x : UInt8) (s : Unit) => kit_IsKey_L1 k x) (fun (s : Unit) => kit_IsKey_E1 s1) 0 s1 () else none
noncomputable def m_kit_Outside (n1 : Int) (low2 : Int) (high3 : Int) : Option (Bool) :=
  some ((decide (n1 < low2)) || (decide (high3 < n1)))
noncomputable def upstream_CheckInstances_J2 (x6 : S_api_Instance) (v17 : Bool) : Option (Unit ⊕ (Int)) :=
  if v17 then (some (.inr 7)) else ((m_kit_Outside x6.Weight 1 100).bind fun (r19 : (Bool)) => if r19 then (some (.inr 1)) else (some (.inl ())))
noncomputable def upstream_CheckInstances_L1 (l1 : (List S_api_Instance)) (k3 : Nat) (x6 : S_api_Instance) : Option (Unit ⊕ (Int)) :=
  (m_kit_IsKey x6.Key).bind fun (r9 : (Bool)) => if !r9 then (some (.inr 5)) else (if decide (0 < (k3 : Int)) then ((at? l1 ((k3 : Int) - 1)).bind fun (x14 : S_api_Instance) => upstream_CheckInstances_J2 x6 (Op.bytesLess x6.Key x14.Key || x6.Key == x14.Key)) else (upstream_CheckInstances_J2 x6 false))
noncomputable def upstream_CheckInstances_E1 : Option (Int) :=
  some 0
noncomputable def m_upstream_CheckInstances (l1 : (List S_api_Instance)) : Option (Int) :=
  if decide (50 < (l1.length : Int)) then some 2 else (if l1.length ≤ 1000000000 then forL (fun (k : Nat) (x : S_api_Instance) (s : Unit) => upstream_CheckInstances_L1 l1 k x) (fun (s : Unit) => upstream_CheckInstances_E1) 0 l1 () else none)
noncomputable def upstream_Moved_J4 (v30 : (List Bs)) : Option ((List Bs) ⊕ ((List Bs) × Int)) :=
  some (.inl v30)
noncomputable def upstream_Moved_L3 (v1 : (List S_api_Instance)) (v2 : (List S_api_Instance)) (k14 : Nat) (x17 : Bs) (l13 : (List Bs)) : Option ((List Bs) ⊕ ((List Bs) × Int)) :=
  (m_upstream_ordered v1 x17).bind fun (r20 : ((List S_api_Instance))) => (r20[0]?).bind fun (x22 : S_api_Instance) => (m_upstream_ordered v2 x17).bind fun (r24 : ((List S_api_Instance))) => (r24[0]?).bind fun (x26 : S_api_Instance) => if decide (x22.Key ≠ x26.Key) then (if l13.length + 1 ≤ 1000000000 then (upstream_Moved_J4 (l13 ++ [x17])) else none) else (upstream_Moved_J4 l13)
noncomputable def upstream_Moved_E3 (l13 : (List Bs)) : Option ((List Bs) × Int) :=
  some (l13, 0)
noncomputable def upstream_Moved_L2 (k8 : Nat) (x11 : Bs) : Option (Unit ⊕ ((List Bs) × Int)) :=
  (m_upstream_keyFault x11).bind fun (r33 : (Int)) => if decide (r33 ≠ 0) then (some (.inr ([], r33))) else (some (.inl ()))
noncomputable def upstream_Moved_E2 (v1 : (List S_api_Instance)) (v2 : (List S_api_Instance)) (v3 : (List Bs)) : Option ((List Bs) × Int) :=
  if ((decide ((v1.length : Int) = 0)) || (decide ((v2.length : Int) = 0))) then (some ([], 8)) else (if v3.length ≤ 1000000000 then forL (fun (k : Nat) (x : Bs) (s : (List Bs)) => upstream_Moved_L3 v1 v2 k x s) (fun (s : (List Bs)) => upstream_Moved_E3 s) 0 v3 [] else none)
noncomputable def upstream_Moved_L1 (v1 : (List S_api_Instance)) (v2 : (List S_api_Instance)) (k4 : Nat) : Option (Unit ⊕ ((List Bs) × Int)) :=
  (([v1, v2] : List (List S_api_Instance))[k4]?).bind fun (x37 : (List S_api_Instance)) => (m_upstream_CheckInstances x37).bind fun (r39 : (Int)) => if decide (r39 ≠ 0) then (some (.inr ([], r39))) else (some (.inl ()))
noncomputable def upstream_Moved_E1 (v1 : (List S_api_Instance)) (v2 : (List S_api_Instance)) (v3 : (List Bs)) : Option ((List Bs) × Int) :=
  if decide (2000 < (v3.length : Int)) then (some ([], 2)) else (if v3.length ≤ 1000000000 then forL (fun (k : Nat) (x : Bs) (s : Unit) => upstream_Moved_L2 k x) (fun (s : Unit) => upstream_Moved_E2 v1 v2 v3) 0 v3 () else none)
noncomputable def m_upstream_Moved (v1 : (List S_api_Instance)) (v2 : (List S_api_Instance)) (v3 : (List Bs)) : Option ((List Bs) × Int) :=
  if 2 ≤ 1000000000 then rng (fun (k : Nat) (s : Unit) => upstream_Moved_L1 v1 v2 k) (fun (s : Unit) => upstream_Moved_E1 v1 v2 v3) 2 0 () else none
noncomputable def m_gateref2_in (n1 : Int) (low2 : Int) (high3 : Int) : Option (Bool) :=
  some ((decide (low2 ≤ n1)) && (decide (n1 ≤ high3)))
noncomputable def gateref2_only_L1 (some2 : Bs) (k3 : Nat) (x6 : UInt8) : Option (Unit ⊕ (Bool)) :=
  (m_strings_IndexByte some2 (x6.toNat : Int)).bind fun (r9 : (Int)) => if decide (r9 < 0) then (some (.inr false)) else (some (.inl ()))
noncomputable def gateref2_only_E1 : Option (Bool) :=
  some true
noncomputable def m_gateref2_only (s1 : Bs) (some2 : Bs) : Option (Bool) :=
  if s1.length ≤ 1000000000 then forL (fun (k : Nat) (x : UInt8) (s : Unit) => gateref2_only_L1 some2 k x) (fun (s : Unit) => gateref2_only_E1) 0 s1 () else none
noncomputable def gateref2_Key_J1 (v16 : Bool) : Option (Bool) :=
  some v16
noncomputable def m_gateref2_Key (s1 : Bs) : Option (Bool) :=
  (m_gateref2_in (s1.length : Int) 1 40).bind fun (r2 : (Bool)) => if r2 then ((sub? s1 0 1).bind fun (l6 : Bs) => (m_gateref2_only l6 [97, 98, 99, 100, 101, 102, 103, 104, 105, 106, 107, 108, 109, 110, 111, 112, 113, 114, 115, 116, 117, 118, 119, 120, 121, 122]).bind fun (r8 : (Bool)) => if r8 then ((m_gateref2_only s1 [97, 98, 99, 100, 101, 102, 103, 104, 105, 106, 107, 108, 109, 110, 111, 112, 113, 114, 115, 116, 117, 118, 119, 120, 121, 122, 48, 49, 50, 51, 52, 53, 54, 55, 56, 57, 45, 95]).bind fun (r12 : (Bool)) => gateref2_Key_J1 r12) else (gateref2_Key_J1 false)) else (gateref2_Key_J1 false)
noncomputable def gateref2_InstancesFault_L1 (k4 : Nat) (x7 : S_api_Instance) (last3 : Bs) : Option (Bs ⊕ (Int)) :=
  (m_gateref2_Key x7.Key).bind fun (r10 : (Bool)) => if !r10 then (some (.inr 5)) else (if (Op.bytesLess x7.Key last3 || x7.Key == last3) then (some (.inr 7)) else ((m_gateref2_in x7.Weight 1 100).bind fun (r14 : (Bool)) => if !r14 then (some (.inr 1)) else (some (.inl x7.Key))))
noncomputable def gateref2_InstancesFault_E1 (last3 : Bs) : Option (Int) :=
  some 0
noncomputable def m_gateref2_InstancesFault (l1 : (List S_api_Instance)) : Option (Int) :=
  if decide (50 < (l1.length : Int)) then some 2 else (if l1.length ≤ 1000000000 then forL (fun (k : Nat) (x : S_api_Instance) (s : Bs) => gateref2_InstancesFault_L1 k x s) (fun (s : Bs) => gateref2_InstancesFault_E1 s) 0 l1 [] else none)
noncomputable def gatelaw2_errs_L1 (k2 : Nat) (x5 : Int) : Option (Unit ⊕ (Int)) :=
  if decide (x5 ≠ 0) then (some (.inr x5)) else (some (.inl ()))
noncomputable def gatelaw2_errs_E1 : Option (Int) :=
  some 0
noncomputable def m_gatelaw2_errs (l1 : (List Int)) : Option (Int) :=
  if l1.length ≤ 1000000000 then forL (fun (k : Nat) (x : Int) (s : Unit) => gatelaw2_errs_L1 k x) (fun (s : Unit) => gatelaw2_errs_E1) 0 l1 () else none
noncomputable def m_gatelaw2_when (is1 : Bool) (e2 : Int) : Option (Int) :=
  if is1 then some e2 else some 0
noncomputable def upstream_weights_L1 (k3 : Nat) (x6 : S_api_Instance) (sum2 : Int) : Option (Int ⊕ (Int)) :=
  some (.inl (wr (sum2 + x6.Weight)))
noncomputable def upstream_weights_E1 (sum2 : Int) : Option (Int) :=
  some sum2
noncomputable def m_upstream_weights (l1 : (List S_api_Instance)) : Option (Int) :=
  if l1.length ≤ 1000000000 then forL (fun (k : Nat) (x : S_api_Instance) (s : Int) => upstream_weights_L1 k x s) (fun (s : Int) => upstream_weights_E1 s) 0 l1 0 else none
noncomputable def upstream_Round_J3 (v39 : Int) (v40 : (List Int)) : Option ((Int × (List Int)) ⊕ (((List Int) × (List Bs)) ⊕ ((List Bs) × Int))) :=
  some (.inl (v39, v40))
noncomputable def upstream_Round_L2 (k21 : Nat) (x24 : S_api_Instance) (v19 : Int) (l20 : (List Int)) : Option ((Int × (List Int)) ⊕ (((List Int) × (List Bs)) ⊕ ((List Bs) × Int))) :=
  (l20[k21]?).bind fun (x32 : Int) => ((l20.set k21 (wr (x32 + x24.Weight)))[k21]?).bind fun (x34 : Int) => (at? (l20.set k21 (wr (x32 + x24.Weight))) v19).bind fun (x36 : Int) => if decide (x36 < x34) then (upstream_Round_J3 (k21 : Int) (l20.set k21 (wr (x32 + x24.Weight)))) else (upstream_Round_J3 v19 (l20.set k21 (wr (x32 + x24.Weight))))
noncomputable def upstream_Round_E2 (v1 : (List S_api_Instance)) (r11 : (Int)) (l14 : (List Bs)) (v19 : Int) (l20 : (List Int)) : Option (((List Int) × (List Bs)) ⊕ ((List Bs) × Int)) :=
  (at? l20 v19).bind fun (x25 : Int) => (at? v1 v19).bind fun (x27 : S_api_Instance) => if l14.length + 1 ≤ 1000000000 then (some (.inl ((l20.set v19.toNat (wr (x25 - r11))), (l14 ++ [x27.Key])))) else none
noncomputable def upstream_Round_L1 (v1 : (List S_api_Instance)) (r11 : (Int)) (k15 : Nat) (l13 : (List Int)) (l14 : (List Bs)) : Option (((List Int) × (List Bs)) ⊕ ((List Bs) × Int)) :=
  if v1.length ≤ 1000000000 then forL (fun (k : Nat) (x : S_api_Instance) (s : Int × (List Int)) => upstream_Round_L2 k x s.1 s.2) (fun (s : Int × (List Int)) => upstream_Round_E2 v1 r11 l14 s.1 s.2) 0 v1 (0, l13) else none
noncomputable def upstream_Round_E1 (l13 : (List Int)) (l14 : (List Bs)) : Option ((List Bs) × Int) :=
  some (l14, 0)
noncomputable def m_upstream_Round (v1 : (List S_api_Instance)) (v2 : Int) : Option ((List Bs) × Int) :=
  (m_upstream_CheckInstances v1).bind fun (r3 : (Int)) => if decide (r3 ≠ 0) then (some ([], r3)) else ((m_kit_Outside v2 0 2000).bind fun (r6 : (Bool)) => if r6 then (some ([], 1)) else (if decide ((v1.length : Int) = 0) then (some ([], 8)) else (if v1.length ≤ 1000000000 then ((m_upstream_weights v1).bind fun (r11 : (Int)) => if v2 ≤ 1000000000 then rng (fun (k : Nat) (s : (List Int) × (List Bs)) => upstream_Round_L1 v1 r11 k s.1 s.2) (fun (s : (List Int) × (List Bs)) => upstream_Round_E1 s.1 s.2) v2.toNat 0 ((List.replicate v1.length 0), []) else none) else none)))
noncomputable def slices_Equal_L_string_string__L1 (s2 : (List Bs)) (k4 : Nat) (x7 : Bs) : Option (Unit ⊕ (Bool)) :=
  (s2[k4]?).bind fun (x10 : Bs) => if decide (x7 ≠ x10) then (some (.inr false)) else (some (.inl ()))
noncomputable def slices_Equal_L_string_string__E1 : Option (Bool) :=
  some true
noncomputable def m_slices_Equal_L_string_string_ (s1 : (List Bs)) (s2 : (List Bs)) : Option (Bool) :=
  if decide ((s1.length : Int) ≠ (s2.length : Int)) then some false else (if s1.length ≤ 1000000000 then forL (fun (k : Nat) (x : Bs) (s : Unit) => slices_Equal_L_string_string__L1 s2 k x) (fun (s : Unit) => slices_Equal_L_string_string__E1) 0 s1 () else none)
noncomputable def gatelaw2_balanced_J1 (v8 : Bool) : Option (Bool) :=
  some v8
noncomputable def m_gatelaw2_balanced  : Option (Bool) :=
  (m_upstream_Round ([(S_api_Instance.mk [97] 1), (S_api_Instance.mk [98] 2)]) 3).bind fun (r1 : ((List Bs) × Int)) => if decide (r1.2 = 0) then ((m_slices_Equal_L_string_string_ r1.1 ([[98], [97], [98]])).bind fun (r5 : (Bool)) => gatelaw2_balanced_J1 r5) else (gatelaw2_balanced_J1 false)
noncomputable def slices_insertionSortCmpFunc_string__J2 (i4 : Int) (data28 : (List Bs)) : Option ((Int × (List Bs)) ⊕ ((List Bs))) :=
  some (.inl (wr (i4 + 1), data28))
noncomputable def slices_insertionSortCmpFunc_string__J4 (i4 : Int) (j8 : Int) (l9 : (List Bs)) (v20 : Bool) : Option ((Int × (List Bs)) ⊕ ((Int × (List Bs)) ⊕ ((List Bs)))) :=
  if v20 then ((at? l9 (wr (j8 - 1))).bind fun (x22 : Bs) => (at? l9 j8).bind fun (x24 : Bs) => (at? (l9.set j8.toNat x22) (wr (j8 - 1))).bind fun (x26 : Bs) => some (.inl (wr (j8 - 1), ((l9.set j8.toNat x22).set ((wr (j8 - 1)).toNat) x24)))) else (Option.map .inr (slices_insertionSortCmpFunc_string__J2 i4 l9))
noncomputable def slices_insertionSortCmpFunc_string__L3 (a2 : Int) (p3 : Bs → Bs → Option (Int)) (i4 : Int) (j8 : Int) (l9 : (List Bs)) : Option ((Int × (List Bs)) ⊕ ((Int × (List Bs)) ⊕ ((List Bs)))) :=
  if decide (a2 < j8) then ((at? l9 j8).bind fun (x13 : Bs) => (at? l9 (wr (j8 - 1))).bind fun (x15 : Bs) => (p3 x13 x15).bind fun (r17 : Int) => slices_insertionSortCmpFunc_string__J4 i4 j8 l9 (decide (r17 < 0))) else (slices_insertionSortCmpFunc_string__J4 i4 j8 l9 false)
noncomputable def slices_insertionSortCmpFunc_string__L1 (a2 : Int) (b3 : Int) (p3 : Bs → Bs → Option (Int)) (i4 : Int) (l5 : (List Bs)) : Option ((Int × (List Bs)) ⊕ ((List Bs))) :=
  if decide (i4 < b3) then (iter (fun (s : Int × (List Bs)) => slices_insertionSortCmpFunc_string__L3 a2 p3 i4 s.1 s.2) (i4, l5)) else (some (.inr l5))
noncomputable def m_slices_insertionSortCmpFunc_string_ (data1 : (List Bs)) (a2 : Int) (b3 : Int) (p3 : Bs → Bs → Option (Int)) : Option ((List Bs)) :=
  iter (fun (s : Int × (List Bs)) => slices_insertionSortCmpFunc_string__L1 a2 b3 p3 s.1 s.2) (wr (a2 + 1), data1)
noncomputable def slices_stableCmpFunc_string__J6 (blockSize16 : Int) : Option (Int ⊕ ((List Bs))) :=
  some (.inl (wr (blockSize16 * 2)))
noncomputable def slices_stableCmpFunc_string__J4 (n2 : Int) (blockSize16 : Int) (a23 : Int) : Option (Int ⊕ ((List Bs))) :=
  if decide ((wr (a23 + blockSize16)) < n2) then none else (slices_stableCmpFunc_string__J6 blockSize16)
noncomputable def slices_stableCmpFunc_string__L5 (n2 : Int) (blockSize16 : Int) (a19 : Int) (b20 : Int) : Option ((Int × Int) ⊕ (Int ⊕ ((List Bs)))) :=
  if decide (b20 ≤ n2) then none else (Option.map .inr (slices_stableCmpFunc_string__J4 n2 blockSize16 a19))
noncomputable def slices_stableCmpFunc_string__L3 (n2 : Int) (r13 : ((List Bs))) (blockSize16 : Int) : Option (Int ⊕ ((List Bs))) :=
  if decide (blockSize16 < n2) then (iter (fun (s : Int × Int) => slices_stableCmpFunc_string__L5 n2 blockSize16 s.1 s.2) (0, wr (2 * blockSize16))) else (some (.inr r13))
noncomputable def slices_stableCmpFunc_string__J1 (n2 : Int) (p2 : Bs → Bs → Option (Int)) (a11 : Int) (data12 : (List Bs)) : Option ((List Bs)) :=
  (m_slices_insertionSortCmpFunc_string_ data12 a11 n2 p2).bind fun (r13 : ((List Bs))) => if r13.length = data12.length then (iter (fun (s : Int) => slices_stableCmpFunc_string__L3 n2 r13 s) 20) else none
noncomputable def slices_stableCmpFunc_string__L2 (n2 : Int) (p2 : Bs → Bs → Option (Int)) (a3 : Int) (b4 : Int) (l5 : (List Bs)) : Option ((Int × Int × (List Bs)) ⊕ ((List Bs))) :=
  if decide (b4 ≤ n2) then ((m_slices_insertionSortCmpFunc_string_ l5 a3 b4 p2).bind fun (r8 : ((List Bs))) => if r8.length = l5.length then (some (.inl (b4, wr (b4 + 20), r8))) else none) else (Option.map .inr (slices_stableCmpFunc_string__J1 n2 p2 a3 l5))
noncomputable def m_slices_stableCmpFunc_string_ (data1 : (List Bs)) (n2 : Int) (p2 : Bs → Bs → Option (Int)) : Option ((List Bs)) :=
  iter (fun (s : Int × Int × (List Bs)) => slices_stableCmpFunc_string__L2 n2 p2 s.1 s.2.1 s.2.2) (0, 20, data1)
noncomputable def m_slices_SortStableFunc_L_string_string_ (x1 : (List Bs)) (p1 : Bs → Bs → Option (Int)) : Option ((List Bs)) :=
  (m_slices_stableCmpFunc_string_ x1 (x1.length : Int) p1).bind fun (r2 : ((List Bs))) => if r2.length = x1.length then some r2 else none
noncomputable def m_gateref2_sign (n1 : Int) : Option (Int) :=
  if decide (n1 < 0) then (some (-1)) else (if decide (0 < n1) then some 1 else some 0)
noncomputable def m_gateref2_OrderOf_1 (a1 : Bs) (b2 : Bs) (c3 : (Nat × (Bs → Int))) : Option (Int) :=
  if b2.length ≤ 1000000000 then (if a1.length ≤ 1000000000 then ((m_gateref2_sign (wr ((c3.2 b2) - (c3.2 a1)))).bind fun (r6 : (Int)) => some r6) else none) else none
noncomputable def gateref2_hashed_L1 (k5 : Nat) (x8 : UInt8) (h4 : Int) : Option (Int ⊕ (Int)) :=
  some (.inl (IntKind.wrap .u64 ((xor_ .u64 h4 (IntKind.wrap .u64 (x8.toNat : Int))) * 1099511628211)))
noncomputable def gateref2_hashed_E1 (h4 : Int) : Option (Int) :=
  some h4
noncomputable def m_gateref2_hashed (l1 : (List Bs)) : Option (Int) :=
  (m_strings_Join l1 [0]).bind fun (r2 : (Bs)) => if r2.length ≤ 1000000000 then forL (fun (k : Nat) (x : UInt8) (s : Int) => gateref2_hashed_L1 k x s) (fun (s : Int) => gateref2_hashed_E1 s) 0 r2 14695981039346656037 else none
noncomputable def gateref2_OrderOf_L1 (key2 : Bs) (k6 : Nat) (x9 : S_api_Instance) (m3 : (Bs → Int)) (m4 : Nat) (l5 : (List Bs)) : Option (((Bs → Int) × Nat × (List Bs)) ⊕ ((List Bs))) :=
  (m_gateref2_hashed [key2, x9.Key]).bind fun (r15 : (Int)) => if x9.Key.length ≤ 1000000000 ∧ m4 < 1000000 ∧ -9223372036854775808 ≤ wr ((IntKind.wrap .i64 (Int.tmod (xor_ .u64 r15 (shr_ .u64 r15 32)) 1000003)) * x9.Weight) ∧ wr ((IntKind.wrap .i64 (Int.tmod (xor_ .u64 r15 (shr_ .u64 r15 32)) 1000003)) * x9.Weight) ≤ 9223372036854775807 then (if l5.length + 1 ≤ 1000000000 then (some (.inl ((upm m3 x9.Key (wr ((IntKind.wrap .i64 (Int.tmod (xor_ .u64 r15 (shr_ .u64 r15 32)) 1000003)) * x9.Weight))), (m4 + 1), (l5 ++ [x9.Key])))) else none) else none
noncomputable def gateref2_OrderOf_E1 (m3 : (Bs → Int)) (m4 : Nat) (l5 : (List Bs)) : Option ((List Bs)) :=
  (m_slices_SortStableFunc_L_string_string_ l5 (fun (a0 : Bs) (a1 : Bs) => m_gateref2_OrderOf_1 a0 a1 (m4, m3))).bind fun (r10 : ((List Bs))) => if r10.length = l5.length then some r10 else none
noncomputable def m_gateref2_OrderOf (l1 : (List S_api_Instance)) (key2 : Bs) : Option ((List Bs)) :=
  if l1.length ≤ 1000000000 then forL (fun (k : Nat) (x : S_api_Instance) (s : (Bs → Int) × Nat × (List Bs)) => gateref2_OrderOf_L1 key2 k x s.1 s.2.1 s.2.2) (fun (s : (Bs → Int) × Nat × (List Bs)) => gateref2_OrderOf_E1 s.1 s.2.1 s.2.2) 0 l1 ((fun _ => 0), 0, []) else none
noncomputable def gateref2_MovedOf_J2 (out21 : (List Bs)) : Option ((List Bs) ⊕ ((List Bs))) :=
  some (.inl out21)
noncomputable def gateref2_MovedOf_L1 (a1 : (List S_api_Instance)) (b2 : (List S_api_Instance)) (k5 : Nat) (x8 : Bs) (l4 : (List Bs)) : Option ((List Bs) ⊕ ((List Bs))) :=
  (m_gateref2_OrderOf a1 x8).bind fun (r11 : ((List Bs))) => (r11[0]?).bind fun (x13 : Bs) => (m_gateref2_OrderOf b2 x8).bind fun (r15 : ((List Bs))) => (r15[0]?).bind fun (x17 : Bs) => if decide (x13 ≠ x17) then (if l4.length + 1 ≤ 1000000000 then (gateref2_MovedOf_J2 (l4 ++ [x8])) else none) else (gateref2_MovedOf_J2 l4)
noncomputable def gateref2_MovedOf_E1 (l4 : (List Bs)) : Option ((List Bs)) :=
  some l4
noncomputable def m_gateref2_MovedOf (a1 : (List S_api_Instance)) (b2 : (List S_api_Instance)) (keys3 : (List Bs)) : Option ((List Bs)) :=
  if keys3.length ≤ 1000000000 then forL (fun (k : Nat) (x : Bs) (s : (List Bs)) => gateref2_MovedOf_L1 a1 b2 k x s) (fun (s : (List Bs)) => gateref2_MovedOf_E1 s) 0 keys3 [] else none
noncomputable def m_gateref2_OrderKey (key1 : Bs) : Option (Int) :=
  (m_gateref2_in (key1.length : Int) 1 40).bind fun (r2 : (Bool)) => if !r2 then some 5 else some 0
noncomputable def gatelaw2_KeysMoved_J4 (v45 : Bool) : Option (Bool) :=
  some v45
noncomputable def gatelaw2_KeysMoved_J5 (v58 : Bool) : Option (Bool) :=
  some v58
noncomputable def gatelaw2_KeysMoved_L3 (k28 : Nat) (x31 : Bs) (v27 : Int) : Option (Int ⊕ (Bool)) :=
  (m_gateref2_OrderKey x31).bind fun (r61 : (Int)) => (m_gatelaw2_errs [v27, r61]).bind fun (r63 : (Int)) => some (.inl r63)
noncomputable def gatelaw2_KeysMoved_E3 (r2 : ((List S_api_Instance) × S_gatemake_Stream)) (r4 : ((List S_api_Instance) × S_gatemake_Stream)) (v18 : (List Bs)) (r19 : ((List Bs) × Int)) (v27 : Int) : Option (Bool) :=
  (m_gatelaw2_when ((decide ((r2.1.length : Int) = 0)) || (decide ((r4.1.length : Int) = 0))) 8).bind fun (r32 : (Int)) => (m_gatelaw2_errs [v27, r32]).bind fun (r34 : (Int)) => if decide (r34 ≠ 0) then (if decide (r19.2 = r34) then (if decide ((r19.1.length : Int) = 0) then ((m_gatelaw2_balanced ).bind fun (r41 : (Bool)) => gatelaw2_KeysMoved_J4 r41) else (gatelaw2_KeysMoved_J4 false)) else (gatelaw2_KeysMoved_J4 false)) else (if decide (r19.2 = 0) then ((m_gateref2_MovedOf r2.1 r4.1 v18).bind fun (r48 : ((List Bs))) => (m_slices_Equal_L_string_string_ r19.1 r48).bind fun (r50 : (Bool)) => if r50 then ((m_gatelaw2_balanced ).bind fun (r54 : (Bool)) => gatelaw2_KeysMoved_J5 r54) else (gatelaw2_KeysMoved_J5 false)) else (gatelaw2_KeysMoved_J5 false))
noncomputable def gatelaw2_KeysMoved_J2 (r2 : ((List S_api_Instance) × S_gatemake_Stream)) (r4 : ((List S_api_Instance) × S_gatemake_Stream)) (v18 : (List Bs)) : Option (Bool) :=
  (m_upstream_Moved r2.1 r4.1 v18).bind fun (r19 : ((List Bs) × Int)) => (m_gateref2_InstancesFault r2.1).bind fun (r21 : (Int)) => (m_gateref2_InstancesFault r4.1).bind fun (r23 : (Int)) => (m_gatelaw2_errs [r21, r23]).bind fun (r25 : (Int)) => if v18.length ≤ 1000000000 then forL (fun (k : Nat) (x : Bs) (s : Int) => gatelaw2_KeysMoved_L3 k x s) (fun (s : Int) => gatelaw2_KeysMoved_E3 r2 r4 v18 r19 s) 0 v18 r25 else none
noncomputable def gatelaw2_KeysMoved_L1 (k11 : Nat) (c8 : (List Int)) (c9 : Int) (l10 : (List Bs)) : Option (((List Int) × Int × (List Bs)) ⊕ (Bool)) :=
  (m_gatemake_Stream_Some (S_gatemake_Stream.mk c8 c9) ([[107, 49], [107, 50], [107, 51], [117, 115, 101, 114, 45, 55], [122]])).bind fun (r66 : (Bs × S_gatemake_Stream)) => if l10.length + 1 ≤ 1000000000 then (some (.inl (r66.2.L, r66.2.at_, (l10 ++ [r66.1])))) else none
noncomputable def gatelaw2_KeysMoved_E1 (r2 : ((List S_api_Instance) × S_gatemake_Stream)) (r4 : ((List S_api_Instance) × S_gatemake_Stream)) (c8 : (List Int)) (c9 : Int) (l10 : (List Bs)) : Option (Bool) :=
  (m_gatemake_Stream_Flip (S_gatemake_Stream.mk c8 c9) 20).bind fun (r14 : (Bool × S_gatemake_Stream)) => if r14.1 then (if l10.length + 1 ≤ 1000000000 then (gatelaw2_KeysMoved_J2 r2 r4 (l10 ++ ([[]]))) else none) else (gatelaw2_KeysMoved_J2 r2 r4 l10)
noncomputable def m_gatelaw2_KeysMoved (v1 : (List Int)) : Option (Bool) :=
  (m_gatemake_Stream_Instances (S_gatemake_Stream.mk v1 0)).bind fun (r2 : ((List S_api_Instance) × S_gatemake_Stream)) => (m_gatemake_Stream_Instances r2.2).bind fun (r4 : ((List S_api_Instance) × S_gatemake_Stream)) => (m_gatemake_Stream_Range r4.2 0 6).bind fun (r6 : (Int × S_gatemake_Stream)) => if r6.1 ≤ 1000000000 then rng (fun (k : Nat) (s : (List Int) × Int × (List Bs)) => gatelaw2_KeysMoved_L1 k s.1 s.2.1 s.2.2) (fun (s : (List Int) × Int × (List Bs)) => gatelaw2_KeysMoved_E1 r2 r4 s.1 s.2.1 s.2.2) r6.1.toNat 0 (r6.2.L, r6.2.at_, []) else none
end Go.Proofs.Ytmlbmkfbleicaaa
