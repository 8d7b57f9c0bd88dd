/- Plain models of functions. Printed by a program. -/
import Derived.Test.YtiilgjigelbkcaaDoorMc
namespace Go.Proofs.YtiilgjigelbkcaaDoor
set_option linter.unusedVariables false
set_option maxRecDepth 20000
structure S_gatemake_Stream where
  L : (List Int)
  at_ : Int
noncomputable def gatemake_Below_J1 (x6 : Int) : Option (Int) :=
  some x6
noncomputable def m_gatemake_Below (x1 : Int) (n2 : Int) : Option (Int) :=
  if decide (n2 < 1) then some 0 else (if n2 ≠ 0 then (if decide ((Int.tmod x1 n2) < 0) then (gatemake_Below_J1 (wr ((Int.tmod x1 n2) + n2))) else (gatemake_Below_J1 (Int.tmod x1 n2))) else none)
noncomputable def m_gatemake_Stream_Next (s1 : S_gatemake_Stream) (n2 : Int) : Option (Int × S_gatemake_Stream) :=
  if decide ((s1.L.length : Int) = 0) then ((m_gatemake_Below (wr ((wr (s1.at_ + 1)) * 7919)) n2).bind fun (r4 : (Int)) => some (r4, (S_gatemake_Stream.mk s1.L (wr (s1.at_ + 1))))) else (if (s1.L.length : Int) ≠ 0 then (if ((0 : Int) ≤ (wr ((wr (s1.at_ + 1)) - 1)) ∧ (wr ((wr (s1.at_ + 1)) - 1)) ≤ 9223372036854775807) ∧ (0 : Int) < (s1.L.length : Int) then ((at? s1.L (Int.tmod (wr ((wr (s1.at_ + 1)) - 1)) (s1.L.length : Int))).bind fun (x8 : Int) => (m_gatemake_Below x8 1073741824).bind fun (r10 : (Int)) => (m_gatemake_Below (wr (r10 + (wr (((wr ((wr (s1.at_ + 1)) - 1)) / (s1.L.length : Int)) * (wr (7919 + (Int.tmod (wr ((wr (s1.at_ + 1)) - 1)) (s1.L.length : Int)))))))) n2).bind fun (r12 : (Int)) => some (r12, (S_gatemake_Stream.mk s1.L (wr (s1.at_ + 1))))) else none) else none)
noncomputable def m_gatemake_Stream_Range (s1 : S_gatemake_Stream) (low2 : Int) (high3 : Int) : Option (Int × S_gatemake_Stream) :=
  if decide (high3 < low2) then (some (low2, s1)) else ((m_gatemake_Stream_Next s1 (wr ((wr (high3 - low2)) + 1))).bind fun (r5 : (Int × S_gatemake_Stream)) => some (wr (low2 + r5.1), r5.2))
noncomputable def m_internal_strconv_lower (c1 : Int) : Option (Int) :=
  some (or_ .u8 c1 32)
noncomputable def internal_strconv_underscoreOK_J7 (v47 : Int) (v85 : Int) : Option ((Int × Int) ⊕ (Bool)) :=
  some (.inl (v85, wr (v47 + 1)))
noncomputable def internal_strconv_underscoreOK_J8 (v14 : Bs) (v46 : Int) (v47 : Int) (v78 : Bool) : Option ((Int × Int) ⊕ (Bool)) :=
  if v78 then (internal_strconv_underscoreOK_J7 v47 48) else ((at? v14 v47).bind fun (x80 : UInt8) => if decide ((x80.toNat : Int) = 95) then (if decide (v46 ≠ 48) then (some (.inr false)) else (internal_strconv_underscoreOK_J7 v47 95)) else (if decide (v46 = 95) then (some (.inr false)) else (internal_strconv_underscoreOK_J7 v47 33)))
noncomputable def internal_strconv_underscoreOK_J5 (v86 : Int) : Option (Bool) :=
  some (decide (v86 ≠ 95))
noncomputable def internal_strconv_underscoreOK_L6 (v14 : Bs) (v45 : Bool) (v46 : Int) (v47 : Int) : Option ((Int × Int) ⊕ (Bool)) :=
  if decide (v47 < (v14.length : Int)) then ((at? v14 v47).bind fun (x50 : UInt8) => if decide (48 ≤ (x50.toNat : Int)) then (if decide ((x50.toNat : Int) ≤ 57) then (internal_strconv_underscoreOK_J8 v14 v46 v47 true) else (if v45 then ((m_internal_strconv_lower (x50.toNat : Int)).bind fun (r58 : (Int)) => if decide (97 ≤ r58) then ((m_internal_strconv_lower (x50.toNat : Int)).bind fun (r62 : (Int)) => internal_strconv_underscoreOK_J8 v14 v46 v47 (decide (r62 ≤ 102))) else (internal_strconv_underscoreOK_J8 v14 v46 v47 false)) else (internal_strconv_underscoreOK_J8 v14 v46 v47 false))) else (if v45 then ((m_internal_strconv_lower (x50.toNat : Int)).bind fun (r70 : (Int)) => if decide (97 ≤ r70) then ((m_internal_strconv_lower (x50.toNat : Int)).bind fun (r74 : (Int)) => internal_strconv_underscoreOK_J8 v14 v46 v47 (decide (r74 ≤ 102))) else (internal_strconv_underscoreOK_J8 v14 v46 v47 false)) else (internal_strconv_underscoreOK_J8 v14 v46 v47 false))) else (Option.map .inr (internal_strconv_underscoreOK_J5 v46))
noncomputable def internal_strconv_underscoreOK_J3 (v14 : Bs) (v43 : Int) (v44 : Int) (v45 : Bool) : Option (Bool) :=
  iter (fun (s : Int × Int) => internal_strconv_underscoreOK_L6 v14 v45 s.1 s.2) (v43, v44)
noncomputable def internal_strconv_underscoreOK_J4 (v14 : Bs) (v37 : Bool) : Option (Bool) :=
  if v37 then ((v14[1]?).bind fun (x39 : UInt8) => (m_internal_strconv_lower (x39.toNat : Int)).bind fun (r41 : (Int)) => internal_strconv_underscoreOK_J3 v14 48 2 (decide (r41 = 120))) else (internal_strconv_underscoreOK_J3 v14 94 0 false)
noncomputable def internal_strconv_underscoreOK_J1 (v14 : Bs) : Option (Bool) :=
  if decide (2 ≤ (v14.length : Int)) then ((v14[0]?).bind fun (x17 : UInt8) => if decide ((x17.toNat : Int) = 48) then ((v14[1]?).bind fun (x21 : UInt8) => (m_internal_strconv_lower (x21.toNat : Int)).bind fun (r23 : (Int)) => if decide (r23 = 98) then (internal_strconv_underscoreOK_J4 v14 true) else ((m_internal_strconv_lower (x21.toNat : Int)).bind fun (r27 : (Int)) => if decide (r27 = 111) then (internal_strconv_underscoreOK_J4 v14 true) else ((m_internal_strconv_lower (x21.toNat : Int)).bind fun (r31 : (Int)) => internal_strconv_underscoreOK_J4 v14 (decide (r31 = 120))))) else (internal_strconv_underscoreOK_J4 v14 false)) else (internal_strconv_underscoreOK_J4 v14 false)
noncomputable def internal_strconv_underscoreOK_J2 (v1 : Bs) (v10 : Bool) : Option (Bool) :=
  if v10 then ((sub? v1 1 (v1.length : Int)).bind fun (l12 : Bs) => internal_strconv_underscoreOK_J1 l12) else (internal_strconv_underscoreOK_J1 v1)
noncomputable def m_internal_strconv_underscoreOK (v1 : Bs) : Option (Bool) :=
  if decide (1 ≤ (v1.length : Int)) then ((v1[0]?).bind fun (x4 : UInt8) => if decide ((x4.toNat : Int) = 45) then (internal_strconv_underscoreOK_J2 v1 true) else (internal_strconv_underscoreOK_J2 v1 (decide ((x4.toNat : Int) = 43)))) else (internal_strconv_underscoreOK_J2 v1 false)
noncomputable def internal_strconv_ParseUint_J9 (v87 : Bool) (v88 : Int) : Option ((Bool × Int) ⊕ (Int × Unit)) :=
  some (.inl (v87, v88))
noncomputable def internal_strconv_ParseUint_J10 (v46 : Int) (v49 : Int) (v53 : Int) (v55 : Bool) (v56 : Int) (v83 : Int) : Option ((Bool × Int) ⊕ (Int × Unit)) :=
  if decide ((IntKind.wrap .u8 v46) ≤ v83) then none else (if decide (v53 ≤ v56) then none else (if ((decide ((IntKind.wrap .u64 ((IntKind.wrap .u64 (v56 * (IntKind.wrap .u64 v46))) + (IntKind.wrap .u64 v83))) < (IntKind.wrap .u64 (v56 * (IntKind.wrap .u64 v46))))) || (decide ((IntKind.wrap .u64 ((shl_ .u64 1 (IntKind.wrap .u64 v49)) - 1)) < (IntKind.wrap .u64 ((IntKind.wrap .u64 (v56 * (IntKind.wrap .u64 v46))) + (IntKind.wrap .u64 v83)))))) then none else (internal_strconv_ParseUint_J9 v55 (IntKind.wrap .u64 ((IntKind.wrap .u64 (v56 * (IntKind.wrap .u64 v46))) + (IntKind.wrap .u64 v83))))))
noncomputable def internal_strconv_ParseUint_J11 (v46 : Int) (v49 : Int) (v53 : Int) (v55 : Bool) (v56 : Int) (x60 : Int) (v79 : Bool) : Option ((Bool × Int) ⊕ (Int × Unit)) :=
  if v79 then ((m_internal_strconv_lower x60).bind fun (r81 : (Int)) => internal_strconv_ParseUint_J10 v46 v49 v53 v55 v56 (IntKind.wrap .u8 ((IntKind.wrap .u8 (r81 - 97)) + 10))) else none
noncomputable def internal_strconv_ParseUint_L7 (v2 : Int) (v46 : Int) (v49 : Int) (v53 : Int) (k57 : Nat) (x60 : Int) (v55 : Bool) (v56 : Int) : Option ((Bool × Int) ⊕ (Int × Unit)) :=
  if ((decide (x60 = 95)) && (decide (v2 = 0))) then (internal_strconv_ParseUint_J9 true v56) else (if ((decide (48 ≤ x60)) && (decide (x60 ≤ 57))) then (internal_strconv_ParseUint_J10 v46 v49 v53 v55 v56 (IntKind.wrap .u8 (x60 - 48))) else ((m_internal_strconv_lower x60).bind fun (r72 : (Int)) => if decide (97 ≤ r72) then ((m_internal_strconv_lower x60).bind fun (r76 : (Int)) => internal_strconv_ParseUint_J11 v46 v49 v53 v55 v56 x60 (decide (r76 ≤ 122))) else (internal_strconv_ParseUint_J11 v46 v49 v53 v55 v56 x60 false)))
noncomputable def internal_strconv_ParseUint_J8 (v56 : Int) (v66 : Bool) : Option (Int × Unit) :=
  if v66 then none else (some (v56, ()))
noncomputable def internal_strconv_ParseUint_E7 (v1 : Bs) (v55 : Bool) (v56 : Int) : Option (Int × Unit) :=
  if v55 then ((m_internal_strconv_underscoreOK v1).bind fun (r63 : (Bool)) => internal_strconv_ParseUint_J8 v56 (!r63)) else (internal_strconv_ParseUint_J8 v56 false)
noncomputable def internal_strconv_ParseUint_J6 (v1 : Bs) (v2 : Int) (v45 : Bs) (v46 : Int) (v49 : Int) (v53 : Int) : Option (Int × Unit) :=
  if (0 : Int) ≤ (IntKind.wrap .u64 v49) then (if (numsB v45).length ≤ 1000000000 then forL (fun (k : Nat) (x : Int) (s : Bool × Int) => internal_strconv_ParseUint_L7 v2 v46 v49 v53 k x s.1 s.2) (fun (s : Bool × Int) => internal_strconv_ParseUint_E7 v1 s.1 s.2) 0 (numsB v45) (false, 0) else none) else none
noncomputable def internal_strconv_ParseUint_J5 (v1 : Bs) (v2 : Int) (v45 : Bs) (v46 : Int) (v49 : Int) : Option (Int × Unit) :=
  if decide (v46 = 10) then (internal_strconv_ParseUint_J6 v1 v2 v45 v46 v49 1844674407370955162) else (if decide (v46 = 16) then (internal_strconv_ParseUint_J6 v1 v2 v45 v46 v49 1152921504606846976) else (if (IntKind.wrap .u64 v46) ≠ 0 then (internal_strconv_ParseUint_J6 v1 v2 v45 v46 v49 (IntKind.wrap .u64 ((IntKind.wrap .u64 (Int.tdiv 18446744073709551615 (IntKind.wrap .u64 v46))) + 1))) else none))
noncomputable def internal_strconv_ParseUint_J1 (v1 : Bs) (v2 : Int) (v3 : Int) (v45 : Bs) (v46 : Int) : Option (Int × Unit) :=
  if decide (v3 = 0) then (internal_strconv_ParseUint_J5 v1 v2 v45 v46 64) else (if ((decide (v3 < 0)) || (decide (64 < v3))) then none else (internal_strconv_ParseUint_J5 v1 v2 v45 v46 v3))
noncomputable def internal_strconv_ParseUint_J4 (v1 : Bs) (v2 : Int) (v3 : Int) (v39 : Bool) : Option (Int × Unit) :=
  if v39 then ((sub? v1 2 (v1.length : Int)).bind fun (l41 : Bs) => internal_strconv_ParseUint_J1 v1 v2 v3 l41 16) else ((sub? v1 1 (v1.length : Int)).bind fun (l43 : Bs) => internal_strconv_ParseUint_J1 v1 v2 v3 l43 8)
noncomputable def internal_strconv_ParseUint_J3 (v1 : Bs) (v2 : Int) (v3 : Int) (v28 : Bool) : Option (Int × Unit) :=
  if v28 then ((sub? v1 2 (v1.length : Int)).bind fun (l30 : Bs) => internal_strconv_ParseUint_J1 v1 v2 v3 l30 8) else (if decide (3 ≤ (v1.length : Int)) then ((v1[1]?).bind fun (x34 : UInt8) => (m_internal_strconv_lower (x34.toNat : Int)).bind fun (r36 : (Int)) => internal_strconv_ParseUint_J4 v1 v2 v3 (decide (r36 = 120))) else (internal_strconv_ParseUint_J4 v1 v2 v3 false))
noncomputable def internal_strconv_ParseUint_J2 (v1 : Bs) (v2 : Int) (v3 : Int) (v17 : Bool) : Option (Int × Unit) :=
  if v17 then ((sub? v1 2 (v1.length : Int)).bind fun (l19 : Bs) => internal_strconv_ParseUint_J1 v1 v2 v3 l19 2) else (if decide (3 ≤ (v1.length : Int)) then ((v1[1]?).bind fun (x23 : UInt8) => (m_internal_strconv_lower (x23.toNat : Int)).bind fun (r25 : (Int)) => internal_strconv_ParseUint_J3 v1 v2 v3 (decide (r25 = 111))) else (internal_strconv_ParseUint_J3 v1 v2 v3 false))
noncomputable def m_internal_strconv_ParseUint (v1 : Bs) (v2 : Int) (v3 : Int) : Option (Int × Unit) :=
  if decide (v1 = []) then none else (if ((decide (2 ≤ v2)) && (decide (v2 ≤ 36))) then (internal_strconv_ParseUint_J1 v1 v2 v3 v1 v2) else (if decide (v2 = 0) then ((v1[0]?).bind fun (x7 : UInt8) => if decide ((x7.toNat : Int) = 48) then (if decide (3 ≤ (v1.length : Int)) then ((v1[1]?).bind fun (x12 : UInt8) => (m_internal_strconv_lower (x12.toNat : Int)).bind fun (r14 : (Int)) => internal_strconv_ParseUint_J2 v1 v2 v3 (decide (r14 = 98))) else (internal_strconv_ParseUint_J2 v1 v2 v3 false)) else (internal_strconv_ParseUint_J1 v1 v2 v3 v1 10)) else none))
noncomputable def internal_strconv_ParseInt_J4 (v25 : Int) : Option (Int × Unit) :=
  some (v25, ())
noncomputable def internal_strconv_ParseInt_J3 (v14 : Bool) (r15 : (Int × Unit)) (v19 : Int) : Option (Int × Unit) :=
  if (0 : Int) ≤ (IntKind.wrap .u64 (wr (v19 - 1))) then (if ((!v14) && (decide ((shl_ .u64 1 (IntKind.wrap .u64 (wr (v19 - 1)))) ≤ r15.1))) then none else (if (v14 && (decide ((shl_ .u64 1 (IntKind.wrap .u64 (wr (v19 - 1)))) < r15.1))) then none else (if v14 then (if -9223372036854775807 ≤ IntKind.wrap .i64 r15.1 ∧ IntKind.wrap .i64 r15.1 ≤ 9223372036854775807 then (internal_strconv_ParseInt_J4 (-(IntKind.wrap .i64 r15.1))) else none) else (internal_strconv_ParseInt_J4 (IntKind.wrap .i64 r15.1))))) else none
noncomputable def internal_strconv_ParseInt_J2 (v3 : Int) (v14 : Bool) (r15 : (Int × Unit)) : Option (Int × Unit) :=
  if false then (some (0, r15.2)) else (if decide (v3 = 0) then (internal_strconv_ParseInt_J3 v14 r15 64) else (internal_strconv_ParseInt_J3 v14 r15 v3))
noncomputable def internal_strconv_ParseInt_J1 (v2 : Int) (v3 : Int) (v13 : Bs) (v14 : Bool) : Option (Int × Unit) :=
  (m_internal_strconv_ParseUint v13 v2 v3).bind fun (r15 : (Int × Unit)) => internal_strconv_ParseInt_J2 v3 v14 r15
noncomputable def m_internal_strconv_ParseInt (v1 : Bs) (v2 : Int) (v3 : Int) : Option (Int × Unit) :=
  if decide (v1 = []) then none else ((v1[0]?).bind fun (x5 : UInt8) => if decide ((x5.toNat : Int) = 43) then ((sub? v1 1 (v1.length : Int)).bind fun (l8 : Bs) => internal_strconv_ParseInt_J1 v2 v3 l8 false) else (if decide ((x5.toNat : Int) = 45) then ((sub? v1 1 (v1.length : Int)).bind fun (l11 : Bs) => internal_strconv_ParseInt_J1 v2 v3 l11 true) else (internal_strconv_ParseInt_J1 v2 v3 v1 false)))
noncomputable def m_strconv_ParseInt (s1 : Bs) (base2 : Int) (bitSize3 : Int) : Option (Int × Unit) :=
  (m_internal_strconv_ParseInt s1 base2 bitSize3).bind fun (r4 : (Int × Unit)) => if false then none else (some (r4.1, ()))
noncomputable def m_internal_strconv_small (i1 : Int) : Option (Bs) :=
  if decide (i1 < 10) then ((sub? [48, 49, 50, 51, 52, 53, 54, 55, 56, 57, 97, 98, 99, 100, 101, 102, 103, 104, 105, 106, 107, 108, 109, 110, 111, 112, 113, 114, 115, 116, 117, 118, 119, 120, 121, 122] i1 (wr (i1 + 1))).bind fun (l3 : Bs) => some l3) else ((sub? [48, 48, 48, 49, 48, 50, 48, 51, 48, 52, 48, 53, 48, 54, 48, 55, 48, 56, 48, 57, 49, 48, 49, 49, 49, 50, 49, 51, 49, 52, 49, 53, 49, 54, 49, 55, 49, 56, 49, 57, 50, 48, 50, 49, 50, 50, 50, 51, 50, 52, 50, 53, 50, 54, 50, 55, 50, 56, 50, 57, 51, 48, 51, 49, 51, 50, 51, 51, 51, 52, 51, 53, 51, 54, 51, 55, 51, 56, 51, 57, 52, 48, 52, 49, 52, 50, 52, 51, 52, 52, 52, 53, 52, 54, 52, 55, 52, 56, 52, 57, 53, 48, 53, 49, 53, 50, 53, 51, 53, 52, 53, 53, 53, 54, 53, 55, 53, 56, 53, 57, 54, 48, 54, 49, 54, 50, 54, 51, 54, 52, 54, 53, 54, 54, 54, 55, 54, 56, 54, 57, 55, 48, 55, 49, 55, 50, 55, 51, 55, 52, 55, 53, 55, 54, 55, 55, 55, 56, 55, 57, 56, 48, 56, 49, 56, 50, 56, 51, 56, 52, 56, 53, 56, 54, 56, 55, 56, 56, 56, 57, 57, 48, 57, 49, 57, 50, 57, 51, 57, 52, 57, 53, 57, 54, 57, 55, 57, 56, 57, 57] (wr (i1 * 2)) (wr ((wr (i1 * 2)) + 2))).bind fun (l5 : Bs) => some l5)
noncomputable def math_bits_Len64_J3 (x9 : Int) (n10 : Int) : Option (Int) :=
  (at? [0, 1, 2, 2, 3, 3, 3, 3, 4, 4, 4, 4, 4, 4, 4, 4, 5, 5, 5, 5, 5, 5, 5, 5, 5, 5, 5, 5, 5, 5, 5, 5, 6, 6, 6, 6, 6, 6, 6, 6, 6, 6, 6, 6, 6, 6, 6, 6, 6, 6, 6, 6, 6, 6, 6, 6, 6, 6, 6, 6, 6, 6, 6, 6, 7, 7, 7, 7, 7, 7, 7, 7, 7, 7, 7, 7, 7, 7, 7, 7, 7, 7, 7, 7, 7, 7, 7, 7, 7, 7, 7, 7, 7, 7, 7, 7, 7, 7, 7, 7, 7, 7, 7, 7, 7, 7, 7, 7, 7, 7, 7, 7, 7, 7, 7, 7, 7, 7, 7, 7, 7, 7, 7, 7, 7, 7, 7, 7, 8, 8, 8, 8, 8, 8, 8, 8, 8, 8, 8, 8, 8, 8, 8, 8, 8, 8, 8, 8, 8, 8, 8, 8, 8, 8, 8, 8, 8, 8, 8, 8, 8, 8, 8, 8, 8, 8, 8, 8, 8, 8, 8, 8, 8, 8, 8, 8, 8, 8, 8, 8, 8, 8, 8, 8, 8, 8, 8, 8, 8, 8, 8, 8, 8, 8, 8, 8, 8, 8, 8, 8, 8, 8, 8, 8, 8, 8, 8, 8, 8, 8, 8, 8, 8, 8, 8, 8, 8, 8, 8, 8, 8, 8, 8, 8, 8, 8, 8, 8, 8, 8, 8, 8, 8, 8, 8, 8, 8, 8, 8, 8, 8, 8, 8, 8, 8, 8, 8, 8, 8, 8, 8, 8, 8, 8, 8, 8] (IntKind.wrap .u8 x9)).bind fun (x11 : UInt8) => some (wr (n10 + (IntKind.wrap .i64 (x11.toNat : Int))))
noncomputable def math_bits_Len64_J2 (x6 : Int) (n7 : Int) : Option (Int) :=
  if decide (256 ≤ x6) then (math_bits_Len64_J3 (shr_ .u64 x6 8) (wr (n7 + 8))) else (math_bits_Len64_J3 x6 n7)
noncomputable def math_bits_Len64_J1 (x3 : Int) (n4 : Int) : Option (Int) :=
  if decide (65536 ≤ x3) then (math_bits_Len64_J2 (shr_ .u64 x3 16) (wr (n4 + 16))) else (math_bits_Len64_J2 x3 n4)
noncomputable def m_math_bits_Len64 (x1 : Int) : Option (Int) :=
  if decide (4294967296 ≤ x1) then (math_bits_Len64_J1 (shr_ .u64 x1 32) 32) else (math_bits_Len64_J1 x1 0)
noncomputable def m_internal_strconv_log10Pow2 (x1 : Int) : Option (Int) :=
  some (shr_ .i64 (wr (x1 * 78913)) 18)
noncomputable def m_internal_strconv_isPowerOfTwo (x1 : Int) : Option (Bool) :=
  some (decide ((and_ .i64 x1 (wr (x1 - 1))) = 0))
noncomputable def internal_strconv_formatBits_J7 (v5 : Bool) (v52 : Int) (l53 : (List Int)) : Option ((List Int) × Bs) :=
  if v5 then none else (if l53.length = 65 then (if (0 : Int) ≤ v52 ∧ v52 ≤ (65 : Int) then (some ([], (strN (l53.drop v52.toNat)))) else none) else none)
noncomputable def internal_strconv_formatBits_J2 (v4 : Bool) (v5 : Bool) (v47 : Int) (l48 : (List Int)) : Option ((List Int) × Bs) :=
  if v4 then (if (0 : Int) ≤ (wr (v47 - 1)) ∧ (wr (v47 - 1)) < (65 : Int) then (if (wr (v47 - 1)).toNat < l48.length then (internal_strconv_formatBits_J7 v5 (wr (v47 - 1)) (l48.set (wr (v47 - 1)).toNat 45)) else none) else none) else (internal_strconv_formatBits_J7 v5 v47 l48)
noncomputable def internal_strconv_formatBits_J3 (v4 : Bool) (v5 : Bool) (v23 : Int) (v24 : Int) (l25 : (List Int)) : Option ((List Int) × Bs) :=
  (at? [48, 49, 50, 51, 52, 53, 54, 55, 56, 57, 97, 98, 99, 100, 101, 102, 103, 104, 105, 106, 107, 108, 109, 110, 111, 112, 113, 114, 115, 116, 117, 118, 119, 120, 121, 122] v23).bind fun (x26 : UInt8) => if (0 : Int) ≤ (wr (v24 - 1)) ∧ (wr (v24 - 1)) < (65 : Int) then (if (wr (v24 - 1)).toNat < l25.length then (internal_strconv_formatBits_J2 v4 v5 (wr (v24 - 1)) (l25.set (wr (v24 - 1)).toNat (x26.toNat : Int))) else none) else none
noncomputable def internal_strconv_formatBits_L4 (v3 : Int) (v4 : Bool) (v5 : Bool) (r11 : (Int)) (v13 : Int) (v14 : Int) (l15 : (List Int)) : Option ((Int × Int × (List Int)) ⊕ ((List Int) × Bs)) :=
  if decide ((IntKind.wrap .u64 v3) ≤ v13) then ((at? [48, 49, 50, 51, 52, 53, 54, 55, 56, 57, 97, 98, 99, 100, 101, 102, 103, 104, 105, 106, 107, 108, 109, 110, 111, 112, 113, 114, 115, 116, 117, 118, 119, 120, 121, 122] (and_ .u64 v13 (IntKind.wrap .u64 ((IntKind.wrap .u64 v3) - 1)))).bind fun (x18 : UInt8) => if (0 : Int) ≤ (wr (v14 - 1)) ∧ (wr (v14 - 1)) < (65 : Int) then (if (wr (v14 - 1)).toNat < l15.length then (if (0 : Int) ≤ (IntKind.wrap .u64 r11) then (some (.inl ((shr_ .u64 v13 (IntKind.wrap .u64 r11)), wr (v14 - 1), (l15.set (wr (v14 - 1)).toNat (x18.toNat : Int))))) else none) else none) else none) else (Option.map .inr (internal_strconv_formatBits_J3 v4 v5 v13 v14 l15))
noncomputable def internal_strconv_formatBits_J5 (v4 : Bool) (v5 : Bool) (v40 : Int) (v41 : Int) (l42 : (List Int)) : Option ((List Int) × Bs) :=
  (at? [48, 49, 50, 51, 52, 53, 54, 55, 56, 57, 97, 98, 99, 100, 101, 102, 103, 104, 105, 106, 107, 108, 109, 110, 111, 112, 113, 114, 115, 116, 117, 118, 119, 120, 121, 122] v40).bind fun (x43 : UInt8) => if (0 : Int) ≤ (wr (v41 - 1)) ∧ (wr (v41 - 1)) < (65 : Int) then (if (wr (v41 - 1)).toNat < l42.length then (internal_strconv_formatBits_J2 v4 v5 (wr (v41 - 1)) (l42.set (wr (v41 - 1)).toNat (x43.toNat : Int))) else none) else none
noncomputable def internal_strconv_formatBits_L6 (v3 : Int) (v4 : Bool) (v5 : Bool) (v30 : Int) (v31 : Int) (l32 : (List Int)) : Option ((Int × Int × (List Int)) ⊕ ((List Int) × Bs)) :=
  if decide ((IntKind.wrap .u64 v3) ≤ v30) then (if (IntKind.wrap .u64 v3) ≠ 0 then ((at? [48, 49, 50, 51, 52, 53, 54, 55, 56, 57, 97, 98, 99, 100, 101, 102, 103, 104, 105, 106, 107, 108, 109, 110, 111, 112, 113, 114, 115, 116, 117, 118, 119, 120, 121, 122] (IntKind.wrap .u64 (v30 - (IntKind.wrap .u64 ((IntKind.wrap .u64 (Int.tdiv v30 (IntKind.wrap .u64 v3))) * (IntKind.wrap .u64 v3)))))).bind fun (x36 : UInt8) => if (0 : Int) ≤ (wr (v31 - 1)) ∧ (wr (v31 - 1)) < (65 : Int) then (if (wr (v31 - 1)).toNat < l32.length then (some (.inl ((IntKind.wrap .u64 (Int.tdiv v30 (IntKind.wrap .u64 v3))), wr (v31 - 1), (l32.set (wr (v31 - 1)).toNat (x36.toNat : Int))))) else none) else none) else none) else (Option.map .inr (internal_strconv_formatBits_J5 v4 v5 v30 v31 l32))
noncomputable def internal_strconv_formatBits_J1 (v2 : Int) (v3 : Int) (v4 : Bool) (v5 : Bool) : Option ((List Int) × Bs) :=
  (m_internal_strconv_isPowerOfTwo v3).bind fun (r8 : (Bool)) => if r8 then ((m_bits_TrailingZeros (IntKind.wrap .u64 v3)).bind fun (r11 : (Int)) => iter (fun (s : Int × Int × (List Int)) => internal_strconv_formatBits_L4 v3 v4 v5 r11 s.1 s.2.1 s.2.2) (v2, 65, (List.replicate 65 0))) else (iter (fun (s : Int × Int × (List Int)) => internal_strconv_formatBits_L6 v3 v4 v5 s.1 s.2.1 s.2.2) (v2, 65, (List.replicate 65 0)))
noncomputable def m_internal_strconv_formatBits (v1 : (List Int)) (v2 : Int) (v3 : Int) (v4 : Bool) (v5 : Bool) : Option ((List Int) × Bs) :=
  if (((decide (v3 < 2)) || (decide (v3 = 10))) || (decide (36 < v3))) then none else (if v4 then none else (internal_strconv_formatBits_J1 v2 v3 v4 v5))
noncomputable def m_internal_strconv_FormatInt (i1 : Int) (base2 : Int) : Option (Bs) :=
  if decide (base2 = 10) then (if ((decide (0 ≤ i1)) && (decide (i1 < 100))) then ((m_internal_strconv_small i1).bind fun (r5 : (Bs)) => some r5) else none) else ((m_internal_strconv_formatBits ([] : (List Int)) (IntKind.wrap .u64 i1) base2 (decide (i1 < 0)) false).bind fun (r7 : ((List Int) × Bs)) => some r7.2)
noncomputable def m_strconv_FormatInt (i1 : Int) (base2 : Int) : Option (Bs) :=
  (m_internal_strconv_FormatInt i1 base2).bind fun (r3 : (Bs)) => some r3
noncomputable def gateref2_Encoded_J2 (out23 : Bs) : Option (Bs) :=
  some out23
noncomputable def gateref2_Encoded_L3 (bits7 : Bs) (out8 : Bs) : Option ((Bs × Bs) ⊕ (Bs)) :=
  if decide (bits7 ≠ []) then ((sub? bits7 0 (min 6 (bits7.length : Int))).bind fun (l11 : Bs) => (sub? [48, 48, 48, 48, 48, 48] (min 6 (bits7.length : Int)) ([48, 48, 48, 48, 48, 48].length : Int)).bind fun (l13 : Bs) => if l11.length + l13.length ≤ 1000000000 then ((m_strconv_ParseInt (l11 ++ l13) 2 64).bind fun (r16 : (Int × Unit)) => (sub? [65, 66, 67, 68, 69, 70, 71, 72, 73, 74, 75, 76, 77, 78, 79, 80, 81, 82, 83, 84, 85, 86, 87, 88, 89, 90, 97, 98, 99, 100, 101, 102, 103, 104, 105, 106, 107, 108, 109, 110, 111, 112, 113, 114, 115, 116, 117, 118, 119, 120, 121, 122, 48, 49, 50, 51, 52, 53, 54, 55, 56, 57, 45, 95] r16.1 (wr (r16.1 + 1))).bind fun (l18 : Bs) => if out8.length + l18.length ≤ 1000000000 then ((sub? bits7 (min 6 (bits7.length : Int)) (bits7.length : Int)).bind fun (l21 : Bs) => some (.inl (l21, (out8 ++ l18)))) else none) else none) else (Option.map .inr (gateref2_Encoded_J2 out8))
noncomputable def gateref2_Encoded_L1 (k3 : Nat) (x6 : UInt8) (bits2 : Bs) : Option (Bs ⊕ (Bs)) :=
  (m_strconv_FormatInt (wr (256 + (IntKind.wrap .i64 (x6.toNat : Int)))) 2).bind fun (r26 : (Bs)) => (sub? r26 1 (r26.length : Int)).bind fun (l28 : Bs) => if bits2.length + l28.length ≤ 1000000000 then (some (.inl (bits2 ++ l28))) else none
noncomputable def gateref2_Encoded_E1 (bits2 : Bs) : Option (Bs) :=
  iter (fun (s : Bs × Bs) => gateref2_Encoded_L3 s.1 s.2) (bits2, [])
noncomputable def m_gateref2_Encoded (s1 : Bs) : Option (Bs) :=
  if s1.length ≤ 1000000000 then forL (fun (k : Nat) (x : UInt8) (s : Bs) => gateref2_Encoded_L1 k x s) (fun (s : Bs) => gateref2_Encoded_E1 s) 0 s1 [] else none
noncomputable def m_gatemake_Stream_Some (s1 : S_gatemake_Stream) (l2 : (List Bs)) : Option (Bs × S_gatemake_Stream) :=
  (m_gatemake_Stream_Next s1 (l2.length : Int)).bind fun (r3 : (Int × S_gatemake_Stream)) => (at? l2 r3.1).bind fun (x5 : Bs) => some (x5, r3.2)
noncomputable def m_gatemake_Stream_Secret (s1 : S_gatemake_Stream) : Option (Bs × S_gatemake_Stream) :=
  (m_strings_Repeat [115] 101).bind fun (r2 : (Bs)) => (m_gatemake_Stream_Some s1 ([[111, 110, 101], [116, 119, 111], [116, 104, 114, 101, 101], [107, 33], [111, 110, 101], [], [97, 32, 98], [127], r2])).bind fun (r4 : (Bs × S_gatemake_Stream)) => some (r4.1, r4.2)
noncomputable def m_gatemake_Stream_Flip (s1 : S_gatemake_Stream) (n2 : Int) : Option (Bool × S_gatemake_Stream) :=
  (m_gatemake_Stream_Next s1 n2).bind fun (r3 : (Int × S_gatemake_Stream)) => some (decide (r3.1 = 0), r3.2)
noncomputable def m_gatemake_Stream_Changed (s1 : S_gatemake_Stream) (t2 : Bs) (v3 : Bs) : Option (Bs × S_gatemake_Stream) :=
  if ((decide (t2 = [])) || (decide (v3 = []))) then (some (v3, s1)) else ((m_gatemake_Stream_Next s1 (t2.length : Int)).bind fun (r5 : (Int × S_gatemake_Stream)) => (m_gatemake_Stream_Next r5.2 (v3.length : Int)).bind fun (r7 : (Int × S_gatemake_Stream)) => (at? v3 r7.1).bind fun (x9 : UInt8) => (m_gatemake_Stream_Next r7.2 3).bind fun (r11 : (Int × S_gatemake_Stream)) => if decide (r11.1 = 0) then ((sub? t2 0 r5.1).bind fun (l14 : Bs) => if l14.length + (encL (IntKind.wrap .i32 (x9.toNat : Int))).length ≤ 1000000000 then ((sub? t2 (wr (r5.1 + 1)) (t2.length : Int)).bind fun (l17 : Bs) => if (l14 ++ (encL (IntKind.wrap .i32 (x9.toNat : Int)))).length + l17.length ≤ 1000000000 then (some (((l14 ++ (encL (IntKind.wrap .i32 (x9.toNat : Int)))) ++ l17), r11.2)) else none) else none) else (if decide (r11.1 = 1) then ((sub? t2 0 r5.1).bind fun (l21 : Bs) => if l21.length + (encL (IntKind.wrap .i32 (x9.toNat : Int))).length ≤ 1000000000 then ((sub? t2 r5.1 (t2.length : Int)).bind fun (l24 : Bs) => if (l21 ++ (encL (IntKind.wrap .i32 (x9.toNat : Int)))).length + l24.length ≤ 1000000000 then (some (((l21 ++ (encL (IntKind.wrap .i32 (x9.toNat : Int)))) ++ l24), r11.2)) else none) else none) else ((sub? t2 0 r5.1).bind fun (l27 : Bs) => (sub? t2 (wr (r5.1 + 1)) (t2.length : Int)).bind fun (l29 : Bs) => if l27.length + l29.length ≤ 1000000000 then (some ((l27 ++ l29), r11.2)) else none)))
noncomputable def token_Encode_L4 (x6 : Int) (k11 : Nat) (l10 : (List Int)) : Option ((List Int) ⊕ ((Bs × (List Int)) ⊕ (Bs))) :=
  if (0 : Int) ≤ (wr (18 - (wr (6 * (k11 : Int))))) then ((at? [65, 66, 67, 68, 69, 70, 71, 72, 73, 74, 75, 76, 77, 78, 79, 80, 81, 82, 83, 84, 85, 86, 87, 88, 89, 90, 97, 98, 99, 100, 101, 102, 103, 104, 105, 106, 107, 108, 109, 110, 111, 112, 113, 114, 115, 116, 117, 118, 119, 120, 121, 122, 48, 49, 50, 51, 52, 53, 54, 55, 56, 57, 45, 95] (and_ .i64 (shr_ .i64 x6 (wr (18 - (wr (6 * (k11 : Int)))))) 63)).bind fun (x18 : UInt8) => if l10.length + 1 ≤ 1000000000 then (some (.inl (l10 ++ [(x18.toNat : Int)]))) else none) else none
noncomputable def token_Encode_E4 (s2 : Bs) (l10 : (List Int)) : Option ((Bs × (List Int)) ⊕ (Bs)) :=
  (sub? s2 (min 3 (s2.length : Int)) (s2.length : Int)).bind fun (l14 : Bs) => some (.inl (l14, l10))
noncomputable def token_Encode_J5 (x25 : Int) : Option (Int ⊕ ((Bs × (List Int)) ⊕ (Bs))) :=
  some (.inl x25)
noncomputable def token_Encode_L3 (s2 : Bs) (k7 : Nat) (x6 : Int) : Option (Int ⊕ ((Bs × (List Int)) ⊕ (Bs))) :=
  if decide ((k7 : Int) < (min 3 (s2.length : Int))) then ((s2[k7]?).bind fun (x23 : UInt8) => token_Encode_J5 (or_ .i64 (shl_ .i64 x6 8) (IntKind.wrap .i64 (x23.toNat : Int)))) else (token_Encode_J5 (shl_ .i64 x6 8))
noncomputable def token_Encode_E3 (s2 : Bs) (l3 : (List Int)) (x6 : Int) : Option ((Bs × (List Int)) ⊕ (Bs)) :=
  if (wr ((min 3 (s2.length : Int)) + 1)) ≤ 1000000000 then rng (fun (k : Nat) (s : (List Int)) => token_Encode_L4 x6 k s) (fun (s : (List Int)) => token_Encode_E4 s2 s) ((wr ((min 3 (s2.length : Int)) + 1)).toNat) 0 l3 else none
noncomputable def token_Encode_J1 (out26 : (List Int)) : Option (Bs) :=
  some (strN out26)
noncomputable def token_Encode_L2 (s2 : Bs) (l3 : (List Int)) : Option ((Bs × (List Int)) ⊕ (Bs)) :=
  if decide (0 < (s2.length : Int)) then (if 3 ≤ 1000000000 then rng (fun (k : Nat) (s : Int) => token_Encode_L3 s2 k s) (fun (s : Int) => token_Encode_E3 s2 l3 s) 3 0 0 else none) else (Option.map .inr (token_Encode_J1 l3))
noncomputable def m_token_Encode (s1 : Bs) : Option (Bs) :=
  iter (fun (s : Bs × (List Int)) => token_Encode_L2 s.1 s.2) (s1, [])
noncomputable def token_Decode_L4 (x6 : Int) (k11 : Nat) (l10 : (List Int)) : Option ((List Int) ⊕ ((Bs × (List Int)) ⊕ (Bs × Int))) :=
  if (0 : Int) ≤ (wr (16 - (wr (8 * (k11 : Int))))) then (if l10.length + 1 ≤ 1000000000 then (some (.inl (l10 ++ [IntKind.wrap .u8 (shr_ .i64 x6 (wr (16 - (wr (8 * (k11 : Int))))))]))) else none) else none
noncomputable def token_Decode_E4 (rest2 : Bs) (l10 : (List Int)) : Option ((Bs × (List Int)) ⊕ (Bs × Int)) :=
  (sub? rest2 (min 4 (rest2.length : Int)) (rest2.length : Int)).bind fun (l14 : Bs) => some (.inl (l14, l10))
noncomputable def token_Decode_J5 (x26 : Int) : Option (Int ⊕ ((Bs × (List Int)) ⊕ (Bs × Int))) :=
  some (.inl x26)
noncomputable def token_Decode_L3 (rest2 : Bs) (k7 : Nat) (x6 : Int) : Option (Int ⊕ ((Bs × (List Int)) ⊕ (Bs × Int))) :=
  if decide ((k7 : Int) < (min 4 (rest2.length : Int))) then ((rest2[k7]?).bind fun (x21 : UInt8) => (m_strings_IndexByte [65, 66, 67, 68, 69, 70, 71, 72, 73, 74, 75, 76, 77, 78, 79, 80, 81, 82, 83, 84, 85, 86, 87, 88, 89, 90, 97, 98, 99, 100, 101, 102, 103, 104, 105, 106, 107, 108, 109, 110, 111, 112, 113, 114, 115, 116, 117, 118, 119, 120, 121, 122, 48, 49, 50, 51, 52, 53, 54, 55, 56, 57, 45, 95] (x21.toNat : Int)).bind fun (r23 : (Int)) => if decide (r23 < 0) then (some (.inr (.inr ([], 9)))) else (token_Decode_J5 (or_ .i64 (shl_ .i64 x6 6) r23))) else (token_Decode_J5 (shl_ .i64 x6 6))
noncomputable def token_Decode_E3 (rest2 : Bs) (l3 : (List Int)) (x6 : Int) : Option ((Bs × (List Int)) ⊕ (Bs × Int)) :=
  if (wr ((min 4 (rest2.length : Int)) - 1)) ≤ 1000000000 then rng (fun (k : Nat) (s : (List Int)) => token_Decode_L4 x6 k s) (fun (s : (List Int)) => token_Decode_E4 rest2 s) ((wr ((min 4 (rest2.length : Int)) - 1)).toNat) 0 l3 else none
noncomputable def token_Decode_J1 (s1 : Bs) (out27 : (List Int)) : Option (Bs × Int) :=
  (m_token_Encode (strN out27)).bind fun (r28 : (Bs)) => if decide (r28 ≠ s1) then (some ([], 9)) else (some ((strN out27), 0))
noncomputable def token_Decode_L2 (s1 : Bs) (rest2 : Bs) (l3 : (List Int)) : Option ((Bs × (List Int)) ⊕ (Bs × Int)) :=
  if decide (0 < (rest2.length : Int)) then (if 4 ≤ 1000000000 then rng (fun (k : Nat) (s : Int) => token_Decode_L3 rest2 k s) (fun (s : Int) => token_Decode_E3 rest2 l3 s) 4 0 0 else none) else (Option.map .inr (token_Decode_J1 s1 l3))
noncomputable def m_token_Decode (s1 : Bs) : Option (Bs × Int) :=
  iter (fun (s : Bs × (List Int)) => token_Decode_L2 s1 s.1 s.2) (s1, [])
noncomputable def gateref2_Decoded_J2 (s1 : Bs) (out18 : (List Int)) : Option (Bs × Int) :=
  (m_gateref2_Encoded (strN out18)).bind fun (r19 : (Bs)) => if decide (r19 ≠ s1) then (some ([], 9)) else (some ((strN out18), 0))
noncomputable def gateref2_Decoded_L3 (s1 : Bs) (bits7 : Bs) (l8 : (List Int)) : Option ((Bs × (List Int)) ⊕ (Bs × Int)) :=
  if decide (8 ≤ (bits7.length : Int)) then ((sub? bits7 0 8).bind fun (l11 : Bs) => (m_strconv_ParseInt l11 2 64).bind fun (r13 : (Int × Unit)) => if l8.length + 1 ≤ 1000000000 then ((sub? bits7 8 (bits7.length : Int)).bind fun (l16 : Bs) => some (.inl (l16, (l8 ++ [IntKind.wrap .u8 r13.1])))) else none) else (Option.map .inr (gateref2_Decoded_J2 s1 l8))
noncomputable def gateref2_Decoded_L1 (k3 : Nat) (x6 : UInt8) (bits2 : Bs) : Option (Bs ⊕ (Bs × Int)) :=
  (m_strings_IndexByte [65, 66, 67, 68, 69, 70, 71, 72, 73, 74, 75, 76, 77, 78, 79, 80, 81, 82, 83, 84, 85, 86, 87, 88, 89, 90, 97, 98, 99, 100, 101, 102, 103, 104, 105, 106, 107, 108, 109, 110, 111, 112, 113, 114, 115, 116, 117, 118, 119, 120, 121, 122, 48, 49, 50, 51, 52, 53, 54, 55, 56, 57, 45, 95] (x6.toNat : Int)).bind fun (r24 : (Int)) => if decide (r24 < 0) then (some (.inr ([], 9))) else ((m_strconv_FormatInt (wr (64 + r24)) 2).bind fun (r27 : (Bs)) => (sub? r27 1 (r27.length : Int)).bind fun (l29 : Bs) => if bits2.length + l29.length ≤ 1000000000 then (some (.inl (bits2 ++ l29))) else none)
noncomputable def gateref2_Decoded_E1 (s1 : Bs) (bits2 : Bs) : Option (Bs × Int) :=
  iter (fun (s : Bs × (List Int)) => gateref2_Decoded_L3 s1 s.1 s.2) (bits2, [])
noncomputable def m_gateref2_Decoded (s1 : Bs) : Option (Bs × Int) :=
  if s1.length ≤ 1000000000 then forL (fun (k : Nat) (x : UInt8) (s : Bs) => gateref2_Decoded_L1 k x s) (fun (s : Bs) => gateref2_Decoded_E1 s1 s) 0 s1 [] else none
noncomputable def token_secretFault_J2 (v13 : Bool) : Option (Unit ⊕ (Int)) :=
  if v13 then (some (.inr 3)) else (some (.inl ()))
noncomputable def token_secretFault_L1 (k2 : Nat) (x5 : UInt8) : Option (Unit ⊕ (Int)) :=
  if decide ((x5.toNat : Int) < 33) then (token_secretFault_J2 true) else (token_secretFault_J2 (decide (126 < (x5.toNat : Int))))
noncomputable def token_secretFault_E1 (s1 : Bs) : Option (Int) :=
  if decide (s1 = []) then some 3 else (if decide (100 < (s1.length : Int)) then some 2 else some 0)
noncomputable def m_token_secretFault (s1 : Bs) : Option (Int) :=
  if s1.length ≤ 1000000000 then forL (fun (k : Nat) (x : UInt8) (s : Unit) => token_secretFault_L1 k x) (fun (s : Unit) => token_secretFault_E1 s1) 0 s1 () else none
noncomputable def m_internal_strconv_FormatUint (i1 : Int) (base2 : Int) : Option (Bs) :=
  if decide (base2 = 10) then (if decide (i1 < 100) then ((m_internal_strconv_small (IntKind.wrap .i64 i1)).bind fun (r5 : (Bs)) => some r5) else none) else ((m_internal_strconv_formatBits ([] : (List Int)) i1 base2 false false).bind fun (r7 : ((List Int) × Bs)) => some r7.2)
noncomputable def m_strconv_FormatUint (i1 : Int) (base2 : Int) : Option (Bs) :=
  (m_internal_strconv_FormatUint i1 base2).bind fun (r3 : (Bs)) => some r3
noncomputable def token_sum_L2 (k9 : Nat) (h8 : Int) : Option (Int ⊕ (Bs)) :=
  some (.inl (IntKind.wrap .u64 ((xor_ .u64 h8 (shr_ .u64 h8 29)) * 13787848793156543929)))
noncomputable def token_sum_E2 (h8 : Int) : Option (Bs) :=
  (m_strconv_FormatUint h8 16).bind fun (r12 : (Bs)) => (m_strings_Repeat [48] (wr (16 - (r12.length : Int)))).bind fun (r14 : (Bs)) => if r14.length + r12.length ≤ 1000000000 then (some (r14 ++ r12)) else none
noncomputable def token_sum_L3 (k21 : Nat) (x24 : UInt8) (h20 : Int) : Option (Int ⊕ (Int ⊕ (Bs))) :=
  some (.inl (IntKind.wrap .u64 ((xor_ .u64 h20 (IntKind.wrap .u64 (x24.toNat : Int))) * 1099511628211)))
noncomputable def token_sum_E3 (h20 : Int) : Option (Int ⊕ (Bs)) :=
  some (.inl h20)
noncomputable def token_sum_L1 (k4 : Nat) (x7 : Bs) (h3 : Int) : Option (Int ⊕ (Bs)) :=
  if x7.length ≤ 1000000000 then forL (fun (k : Nat) (x : UInt8) (s : Int) => token_sum_L3 k x s) (fun (s : Int) => token_sum_E3 s) 0 x7 h3 else none
noncomputable def token_sum_E1 (h3 : Int) : Option (Bs) :=
  if 3 ≤ 1000000000 then rng (fun (k : Nat) (s : Int) => token_sum_L2 k s) (fun (s : Int) => token_sum_E2 s) 3 0 h3 else none
noncomputable def m_token_sum (secret1 : Bs) (text2 : Bs) : Option (Bs) :=
  if ([secret1, [0], text2, [0], secret1]).length ≤ 1000000000 then forL (fun (k : Nat) (x : Bs) (s : Int) => token_sum_L1 k x s) (fun (s : Int) => token_sum_E1 s) 0 ([secret1, [0], text2, [0], secret1]) 14695981039346656037 else none
noncomputable def m_token_Sum (secret1 : Bs) (text2 : Bs) : Option (Bs × Int) :=
  (m_token_secretFault secret1).bind fun (r3 : (Int)) => if decide (r3 ≠ 0) then (some ([], r3)) else ((m_token_sum secret1 text2).bind fun (r6 : (Bs)) => some (r6, 0))
noncomputable def gateref2_visible_J2 (v12 : Bool) : Option (Unit ⊕ (Bool)) :=
  if v12 then (some (.inr false)) else (some (.inl ()))
noncomputable def gateref2_visible_L1 (low2 : Int) (k3 : Nat) (x6 : UInt8) : Option (Unit ⊕ (Bool)) :=
  if decide ((x6.toNat : Int) < low2) then (gateref2_visible_J2 true) else (gateref2_visible_J2 (decide (126 < (x6.toNat : Int))))
noncomputable def gateref2_visible_E1 : Option (Bool) :=
  some true
noncomputable def m_gateref2_visible (s1 : Bs) (low2 : Int) : Option (Bool) :=
  if s1.length ≤ 1000000000 then forL (fun (k : Nat) (x : UInt8) (s : Unit) => gateref2_visible_L1 low2 k x) (fun (s : Unit) => gateref2_visible_E1) 0 s1 () else none
noncomputable def gateref2_SecretFault_J1 (s1 : Bs) (v7 : Bool) : Option (Int) :=
  if v7 then some 3 else (if decide (100 < (s1.length : Int)) then some 2 else some 0)
noncomputable def m_gateref2_SecretFault (s1 : Bs) : Option (Int) :=
  if decide (s1 = []) then (gateref2_SecretFault_J1 s1 true) else ((m_gateref2_visible s1 33).bind fun (r4 : (Bool)) => gateref2_SecretFault_J1 s1 (!r4))
noncomputable def gateref2_hashed_L1 (k5 : Nat) (x8 : UInt8) (h4 : Int) : Option (Int ⊕ (Int)) :=
  some (.inl (IntKind.wrap .u64 ((xor_ .u64 h4 (IntKind.wrap .u64 (x8.toNat : Int))) * 1099511628211)))
noncomputable def gateref2_hashed_E1 (h4 : Int) : Option (Int) :=
  some h4
noncomputable def m_gateref2_hashed (l1 : (List Bs)) : Option (Int) :=
  (m_strings_Join l1 [0]).bind fun (r2 : (Bs)) => if r2.length ≤ 1000000000 then forL (fun (k : Nat) (x : UInt8) (s : Int) => gateref2_hashed_L1 k x s) (fun (s : Int) => gateref2_hashed_E1 s) 0 r2 14695981039346656037 else none
noncomputable def m_gateref2_hex16 (h1 : Int) : Option (Bs) :=
  (m_strconv_FormatUint h1 16).bind fun (r2 : (Bs)) => (m_strings_Repeat [48] (wr (16 - (r2.length : Int)))).bind fun (r4 : (Bs)) => if r4.length + r2.length ≤ 1000000000 then (some (r4 ++ r2)) else none
noncomputable def gateref2_SumOf_L1 (k6 : Nat) (h5 : Int) : Option (Int ⊕ (Bs)) :=
  some (.inl (IntKind.wrap .u64 ((xor_ .u64 h5 (shr_ .u64 h5 29)) * 13787848793156543929)))
noncomputable def gateref2_SumOf_E1 (h5 : Int) : Option (Bs) :=
  (m_gateref2_hex16 h5).bind fun (r9 : (Bs)) => some r9
noncomputable def m_gateref2_SumOf (secret1 : Bs) (text2 : Bs) : Option (Bs) :=
  (m_gateref2_hashed [secret1, text2, secret1]).bind fun (r3 : (Int)) => if 3 ≤ 1000000000 then rng (fun (k : Nat) (s : Int) => gateref2_SumOf_L1 k s) (fun (s : Int) => gateref2_SumOf_E1 s) 3 0 r3 else none
noncomputable def m_gatelaw2_signed  : Option (Bool) :=
  (m_token_Encode [97, 98]).bind fun (r1 : (Bs)) => some (decide (r1 = [89, 87, 73]))
noncomputable def gatelaw2_BytesEncode_J4 (v53 : Bool) : Option (Bool) :=
  some v53
noncomputable def gatelaw2_BytesEncode_J3 (l6 : (List Int)) (r20 : (Bs × Int)) (r22 : (Bs × Int)) (r24 : (Bs × Int)) (r26 : (Int)) (v31 : Bs) : Option (Bool) :=
  (m_token_Encode (strN l6)).bind fun (r32 : (Bs)) => (m_gateref2_Encoded (strN l6)).bind fun (r34 : (Bs)) => if decide (r32 = r34) then (if decide (r20.1 = r22.1) then (if decide (r20.2 = r22.2) then (if decide (r24.1 = v31) then (if decide (r24.2 = r26) then ((m_gatelaw2_signed ).bind fun (r46 : (Bool)) => gatelaw2_BytesEncode_J4 r46) else (gatelaw2_BytesEncode_J4 false)) else (gatelaw2_BytesEncode_J4 false)) else (gatelaw2_BytesEncode_J4 false)) else (gatelaw2_BytesEncode_J4 false)) else (gatelaw2_BytesEncode_J4 false)
noncomputable def gatelaw2_BytesEncode_J2 (l6 : (List Int)) (r12 : (Bs × S_gatemake_Stream)) (v19 : Bs) : Option (Bool) :=
  (m_token_Decode v19).bind fun (r20 : (Bs × Int)) => (m_gateref2_Decoded v19).bind fun (r22 : (Bs × Int)) => (m_token_Sum r12.1 (strN l6)).bind fun (r24 : (Bs × Int)) => (m_gateref2_SecretFault r12.1).bind fun (r26 : (Int)) => if decide (r26 = 0) then ((m_gateref2_SumOf r12.1 (strN l6)).bind fun (r29 : (Bs)) => gatelaw2_BytesEncode_J3 l6 r20 r22 r24 r26 r29) else (gatelaw2_BytesEncode_J3 l6 r20 r22 r24 r26 [])
noncomputable def gatelaw2_BytesEncode_L1 (k7 : Nat) (c4 : (List Int)) (c5 : Int) (l6 : (List Int)) : Option (((List Int) × Int × (List Int)) ⊕ (Bool)) :=
  (m_gatemake_Stream_Range (S_gatemake_Stream.mk c4 c5) 0 255).bind fun (r55 : (Int × S_gatemake_Stream)) => if l6.length + 1 ≤ 1000000000 then (some (.inl (r55.2.L, r55.2.at_, (l6 ++ [IntKind.wrap .u8 r55.1])))) else none
noncomputable def gatelaw2_BytesEncode_E1 (c4 : (List Int)) (c5 : Int) (l6 : (List Int)) : Option (Bool) :=
  (m_gateref2_Encoded (strN l6)).bind fun (r10 : (Bs)) => (m_gatemake_Stream_Secret (S_gatemake_Stream.mk c4 c5)).bind fun (r12 : (Bs × S_gatemake_Stream)) => (m_gatemake_Stream_Flip r12.2 2).bind fun (r14 : (Bool × S_gatemake_Stream)) => if r14.1 then ((m_gatemake_Stream_Changed r14.2 r10 [65, 90, 97, 122, 48, 57, 45, 95, 61, 82]).bind fun (r17 : (Bs × S_gatemake_Stream)) => gatelaw2_BytesEncode_J2 l6 r12 r17.1) else (gatelaw2_BytesEncode_J2 l6 r12 r10)
noncomputable def m_gatelaw2_BytesEncode (v1 : (List Int)) : Option (Bool) :=
  (m_gatemake_Stream_Range (S_gatemake_Stream.mk v1 0) 0 12).bind fun (r2 : (Int × S_gatemake_Stream)) => if r2.1 ≤ 1000000000 then rng (fun (k : Nat) (s : (List Int) × Int × (List Int)) => gatelaw2_BytesEncode_L1 k s.1 s.2.1 s.2.2) (fun (s : (List Int) × Int × (List Int)) => gatelaw2_BytesEncode_E1 s.1 s.2.1 s.2.2) r2.1.toNat 0 (r2.2.L, r2.2.at_, []) else none
end Go.Proofs.YtiilgjigelbkcaaDoor
