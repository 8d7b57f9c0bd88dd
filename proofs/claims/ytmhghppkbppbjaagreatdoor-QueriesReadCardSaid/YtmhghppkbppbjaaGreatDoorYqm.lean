/- Plain models of functions. Printed by a program. -/
import Derived.Test.YtmhghppkbppbjaaGreatDoorMc
namespace Go.Proofs.YtmhghppkbppbjaaGreatDoor
set_option linter.unusedVariables false
set_option maxRecDepth 20000
structure S_gatemake_Stream where
  L : (List Int)
  at_ : Int
structure S_api_Pair where
  Name : Bs
  Value : Bs
structure S_gateref2_unit where
  c_ : Int
  plain_ : Bool
noncomputable def gatemake_Below_J1 (x6 : Int) : Option (Int) :=
  some x6
noncomputable def m_gatemake_Below (x1 : Int) (n2 : Int) : Option (Int) :=
  if decide (n2 < 1) then some 0 else (if n2 ≠ 0 then (if decide ((Int.tmod x1 n2) < 0) then (gatemake_Below_J1 (wr ((Int.tmod x1 n2) + n2))) else (gatemake_Below_J1 (Int.tmod x1 n2))) else none)
noncomputable def m_gatemake_Stream_Next (s1 : S_gatemake_Stream) (n2 : Int) : Option (Int × S_gatemake_Stream) :=
  if decide ((s1.L.length : Int) = 0) then ((m_gatemake_Below (wr ((wr (s1.at_ + 1)) * 7919)) n2).bind fun (r4 : (Int)) => some (r4, (S_gatemake_Stream.mk s1.L (wr (s1.at_ + 1))))) else (if (s1.L.length : Int) ≠ 0 then (if ((0 : Int) ≤ (wr ((wr (s1.at_ + 1)) - 1)) ∧ (wr ((wr (s1.at_ + 1)) - 1)) ≤ 9223372036854775807) ∧ (0 : Int) < (s1.L.length : Int) then ((at? s1.L (Int.tmod (wr ((wr (s1.at_ + 1)) - 1)) (s1.L.length : Int))).bind fun (x8 : Int) => (m_gatemake_Below x8 1073741824).bind fun (r10 : (Int)) => (m_gatemake_Below (wr (r10 + (wr (((wr ((wr (s1.at_ + 1)) - 1)) / (s1.L.length : Int)) * (wr (7919 + (Int.tmod (wr ((wr (s1.at_ + 1)) - 1)) (s1.L.length : Int)))))))) n2).bind fun (r12 : (Int)) => some (r12, (S_gatemake_Stream.mk s1.L (wr (s1.at_ + 1))))) else none) else none)
noncomputable def m_gatemake_Stream_Range (s1 : S_gatemake_Stream) (low2 : Int) (high3 : Int) : Option (Int × S_gatemake_Stream) :=
  if decide (high3 < low2) then (some (low2, s1)) else ((m_gatemake_Stream_Next s1 (wr ((wr (high3 - low2)) + 1))).bind fun (r5 : (Int × S_gatemake_Stream)) => some (wr (low2 + r5.1), r5.2))
noncomputable def m_gatemake_Stream_Some (s1 : S_gatemake_Stream) (l2 : (List Bs)) : Option (Bs × S_gatemake_Stream) :=
  (m_gatemake_Stream_Next s1 (l2.length : Int)).bind fun (r3 : (Int × S_gatemake_Stream)) => (at? l2 r3.1).bind fun (x5 : Bs) => some (x5, r3.2)
noncomputable def gatemake_Stream_Words_L1 (l4 : (List Bs)) (k8 : Nat) (c5 : (List Int)) (c6 : Int) (l7 : (List Bs)) : Option (((List Int) × Int × (List Bs)) ⊕ (Bs × S_gatemake_Stream)) :=
  (m_gatemake_Stream_Some (S_gatemake_Stream.mk c5 c6) l4).bind fun (r14 : (Bs × S_gatemake_Stream)) => if l7.length + 1 ≤ 1000000000 then (some (.inl (r14.2.L, r14.2.at_, (l7 ++ [r14.1])))) else none
noncomputable def gatemake_Stream_Words_E1 (between3 : Bs) (c5 : (List Int)) (c6 : Int) (l7 : (List Bs)) : Option (Bs × S_gatemake_Stream) :=
  (m_strings_Join l7 between3).bind fun (r11 : (Bs)) => some (r11, (S_gatemake_Stream.mk c5 c6))
noncomputable def m_gatemake_Stream_Words (s1 : S_gatemake_Stream) (many2 : Int) (between3 : Bs) (l4 : (List Bs)) : Option (Bs × S_gatemake_Stream) :=
  if many2 ≤ 1000000000 then rng (fun (k : Nat) (s : (List Int) × Int × (List Bs)) => gatemake_Stream_Words_L1 l4 k s.1 s.2.1 s.2.2) (fun (s : (List Int) × Int × (List Bs)) => gatemake_Stream_Words_E1 between3 s.1 s.2.1 s.2.2) many2.toNat 0 (s1.L, s1.at_, []) else none
noncomputable def m_gatemake_Stream_Flip (s1 : S_gatemake_Stream) (n2 : Int) : Option (Bool × S_gatemake_Stream) :=
  (m_gatemake_Stream_Next s1 n2).bind fun (r3 : (Int × S_gatemake_Stream)) => some (decide (r3.1 = 0), r3.2)
noncomputable def gatemake_Stream_QueryName_J1 (q13 : Bs) (c14 : (List Int)) (c15 : Int) : Option (Bs × S_gatemake_Stream) :=
  some (q13, (S_gatemake_Stream.mk c14 c15))
noncomputable def m_gatemake_Stream_QueryName (s1 : S_gatemake_Stream) : Option (Bs × S_gatemake_Stream) :=
  (m_gatemake_Stream_Range s1 0 4).bind fun (r2 : (Int × S_gatemake_Stream)) => (m_gatemake_Stream_Words r2.2 r2.1 [38] ([[97, 61, 49], [98, 61, 50], [97, 61], [61, 120], [61], [99], [], [97, 61, 37, 52, 49, 43, 37, 50, 66], [100, 61, 120, 37, 50, 54, 121], [98, 61, 37, 99, 51], [97, 61, 49, 61, 50], [97, 63, 98, 61, 47]])).bind fun (r4 : (Bs × S_gatemake_Stream)) => (m_gatemake_Stream_Flip r4.2 12).bind fun (r6 : (Bool × S_gatemake_Stream)) => if r6.1 then ((m_gatemake_Stream_Words r6.2 101 [38] ([[120]])).bind fun (r9 : (Bs × S_gatemake_Stream)) => (m_gatemake_Stream_Some r9.2 ([[35], [97, 37], [37, 103, 49, 61, 50], [97, 32, 98], [128], r9.1])).bind fun (r11 : (Bs × S_gatemake_Stream)) => gatemake_Stream_QueryName_J1 r11.1 r11.2.L r11.2.at_) else (gatemake_Stream_QueryName_J1 r4.1 r6.2.L r6.2.at_)
noncomputable def message_isRange_J2 (v13 : Bool) : Option (Unit ⊕ (Bool)) :=
  if v13 then (some (.inr false)) else (some (.inl ()))
noncomputable def message_isRange_L1 (low2 : Int) (high3 : Int) (k4 : Nat) (x7 : UInt8) : Option (Unit ⊕ (Bool)) :=
  if decide ((x7.toNat : Int) < low2) then (message_isRange_J2 true) else (message_isRange_J2 (decide (high3 < (x7.toNat : Int))))
noncomputable def message_isRange_E1 : Option (Bool) :=
  some true
noncomputable def m_message_isRange (s1 : Bs) (low2 : Int) (high3 : Int) : Option (Bool) :=
  if s1.length ≤ 1000000000 then forL (fun (k : Nat) (x : UInt8) (s : Unit) => message_isRange_L1 low2 high3 k x) (fun (s : Unit) => message_isRange_E1) 0 s1 () else none
noncomputable def message_queryFault_J1 (v12 : Bool) : Option (Int) :=
  if v12 then some 3 else some 0
noncomputable def m_message_queryFault (s1 : Bs) : Option (Int) :=
  if decide (1000 < (s1.length : Int)) then (message_queryFault_J1 true) else ((m_message_isRange s1 33 126).bind fun (r4 : (Bool)) => if !r4 then (message_queryFault_J1 true) else ((m_strings_Contains s1 [35]).bind fun (r8 : (Bool)) => message_queryFault_J1 r8))
noncomputable def m_strings_Builder_WriteByte (l1 : (List Int)) (c2 : Int) : Option (Int × (List Int)) :=
  if l1.length + 1 ≤ 1000000000 then (some (0, (l1 ++ [c2]))) else none
noncomputable def m_message_isDigit (c1 : Int) : Option (Bool) :=
  some ((decide (48 ≤ c1)) && (decide (c1 ≤ 57)))
noncomputable def m_message_isHex (c1 : Int) : Option (Bool) :=
  (m_message_isDigit c1).bind fun (r2 : (Bool)) => some ((r2 || ((decide (97 ≤ c1)) && (decide (c1 ≤ 102)))) || ((decide (65 ≤ c1)) && (decide (c1 ≤ 70))))
noncomputable def message_isUnit_J1 (v17 : Bool) : Option (Bool) :=
  some v17
noncomputable def m_message_isUnit (s1 : Bs) (v2 : Int) : Option (Bool) :=
  if decide ((wr (v2 + 2)) < (s1.length : Int)) then ((at? s1 (wr (v2 + 1))).bind fun (x5 : UInt8) => (m_message_isHex (x5.toNat : Int)).bind fun (r7 : (Bool)) => if r7 then ((at? s1 (wr (v2 + 2))).bind fun (x11 : UInt8) => (m_message_isHex (x11.toNat : Int)).bind fun (r13 : (Bool)) => message_isUnit_J1 r13) else (message_isUnit_J1 false)) else (message_isUnit_J1 false)
noncomputable def m_internal_strconv_lower (c1 : Int) : Option (Int) :=
  some (or_ .u8 c1 32)
noncomputable def internal_strconv_underscoreOK_J7 (v47 : Int) (v85 : Int) : Option ((Int × Int) ⊕ (Bool)) :=
  some (.inl (v85, wr (v47 + 1)))
noncomputable def internal_strconv_underscoreOK_J8 (v14 : Bs) (v46 : Int) (v47 : Int) (v78 : Bool) : Option ((Int × Int) ⊕ (Bool)) :=
  if v78 then (internal_strconv_underscoreOK_J7 v47 48) else ((at? v14 v47).bind fun (x80 : UInt8) => if decide ((x80.toNat : Int) = 95) then (if decide (v46 ≠ 48) then (some (.inr false)) else (internal_strconv_underscoreOK_J7 v47 95)) else (if decide (v46 = 95) then (some (.inr false)) else (internal_strconv_underscoreOK_J7 v47 33)))
noncomputable def internal_strconv_underscoreOK_J5 (v86 : Int) : Option (Bool) :=
  some (decide (v86 ≠ 95))
noncomputable def internal_strconv_underscoreOK_L6 (v14 : Bs) (v45 : Bool) (v46 : Int) (v47 : Int) : Option ((Int × Int) ⊕ (Bool)) :=
  if decide (v47 < (v14.length : Int)) then ((at? v14 v47).bind fun (x50 : UInt8) => if decide (48 ≤ (x50.toNat : Int)) then (if decide ((x50.toNat : Int) ≤ 57) then (internal_strconv_underscoreOK_J8 v14 v46 v47 true) else (if v45 then ((m_internal_strconv_lower (x50.toNat : Int)).bind fun (r58 : (Int)) => if decide (97 ≤ r58) then ((m_internal_strconv_lower (x50.toNat : Int)).bind fun (r62 : (Int)) => internal_strconv_underscoreOK_J8 v14 v46 v47 (decide (r62 ≤ 102))) else (internal_strconv_underscoreOK_J8 v14 v46 v47 false)) else (internal_strconv_underscoreOK_J8 v14 v46 v47 false))) else (if v45 then ((m_internal_strconv_lower (x50.toNat : Int)).bind fun (r70 : (Int)) => if decide (97 ≤ r70) then ((m_internal_strconv_lower (x50.toNat : Int)).bind fun (r74 : (Int)) => internal_strconv_underscoreOK_J8 v14 v46 v47 (decide (r74 ≤ 102))) else (internal_strconv_underscoreOK_J8 v14 v46 v47 false)) else (internal_strconv_underscoreOK_J8 v14 v46 v47 false))) else (Option.map .inr (internal_strconv_underscoreOK_J5 v46))
noncomputable def internal_strconv_underscoreOK_J3 (v14 : Bs) (v43 : Int) (v44 : Int) (v45 : Bool) : Option (Bool) :=
  iter (fun (s : Int × Int) => internal_strconv_underscoreOK_L6 v14 v45 s.1 s.2) (v43, v44)
noncomputable def internal_strconv_underscoreOK_J4 (v14 : Bs) (v37 : Bool) : Option (Bool) :=
  if v37 then ((v14[1]?).bind fun (x39 : UInt8) => (m_internal_strconv_lower (x39.toNat : Int)).bind fun (r41 : (Int)) => internal_strconv_underscoreOK_J3 v14 48 2 (decide (r41 = 120))) else (internal_strconv_underscoreOK_J3 v14 94 0 false)
noncomputable def internal_strconv_underscoreOK_J1 (v14 : Bs) : Option (Bool) :=
  if decide (2 ≤ (v14.length : Int)) then ((v14[0]?).bind fun (x17 : UInt8) => if decide ((x17.toNat : Int) = 48) then ((v14[1]?).bind fun (x21 : UInt8) => (m_internal_strconv_lower (x21.toNat : Int)).bind fun (r23 : (Int)) => if decide (r23 = 98) then (internal_strconv_underscoreOK_J4 v14 true) else ((m_internal_strconv_lower (x21.toNat : Int)).bind fun (r27 : (Int)) => if decide (r27 = 111) then (internal_strconv_underscoreOK_J4 v14 true) else ((m_internal_strconv_lower (x21.toNat : Int)).bind fun (r31 : (Int)) => internal_strconv_underscoreOK_J4 v14 (decide (r31 = 120))))) else (internal_strconv_underscoreOK_J4 v14 false)) else (internal_strconv_underscoreOK_J4 v14 false)
noncomputable def internal_strconv_underscoreOK_J2 (v1 : Bs) (v10 : Bool) : Option (Bool) :=
  if v10 then ((sub? v1 1 (v1.length : Int)).bind fun (l12 : Bs) => internal_strconv_underscoreOK_J1 l12) else (internal_strconv_underscoreOK_J1 v1)
noncomputable def m_internal_strconv_underscoreOK (v1 : Bs) : Option (Bool) :=
  if decide (1 ≤ (v1.length : Int)) then ((v1[0]?).bind fun (x4 : UInt8) => if decide ((x4.toNat : Int) = 45) then (internal_strconv_underscoreOK_J2 v1 true) else (internal_strconv_underscoreOK_J2 v1 (decide ((x4.toNat : Int) = 43)))) else (internal_strconv_underscoreOK_J2 v1 false)
noncomputable def internal_strconv_ParseUint_J9 (v87 : Bool) (v88 : Int) : Option ((Bool × Int) ⊕ (Int × Int)) :=
  some (.inl (v87, v88))
noncomputable def internal_strconv_ParseUint_J10 (v46 : Int) (v49 : Int) (v53 : Int) (v55 : Bool) (v56 : Int) (v83 : Int) : Option ((Bool × Int) ⊕ (Int × Int)) :=
  if decide ((IntKind.wrap .u8 v46) ≤ v83) then (some (.inr (0, 2))) else (if decide (v53 ≤ v56) then (some (.inr (IntKind.wrap .u64 ((shl_ .u64 1 (IntKind.wrap .u64 v49)) - 1), 1))) else (if ((decide ((IntKind.wrap .u64 ((IntKind.wrap .u64 (v56 * (IntKind.wrap .u64 v46))) + (IntKind.wrap .u64 v83))) < (IntKind.wrap .u64 (v56 * (IntKind.wrap .u64 v46))))) || (decide ((IntKind.wrap .u64 ((shl_ .u64 1 (IntKind.wrap .u64 v49)) - 1)) < (IntKind.wrap .u64 ((IntKind.wrap .u64 (v56 * (IntKind.wrap .u64 v46))) + (IntKind.wrap .u64 v83)))))) then (some (.inr (IntKind.wrap .u64 ((shl_ .u64 1 (IntKind.wrap .u64 v49)) - 1), 1))) else (internal_strconv_ParseUint_J9 v55 (IntKind.wrap .u64 ((IntKind.wrap .u64 (v56 * (IntKind.wrap .u64 v46))) + (IntKind.wrap .u64 v83))))))
noncomputable def internal_strconv_ParseUint_J11 (v46 : Int) (v49 : Int) (v53 : Int) (v55 : Bool) (v56 : Int) (x60 : Int) (v79 : Bool) : Option ((Bool × Int) ⊕ (Int × Int)) :=
  if v79 then ((m_internal_strconv_lower x60).bind fun (r81 : (Int)) => internal_strconv_ParseUint_J10 v46 v49 v53 v55 v56 (IntKind.wrap .u8 ((IntKind.wrap .u8 (r81 - 97)) + 10))) else (some (.inr (0, 2)))
noncomputable def internal_strconv_ParseUint_L7 (v2 : Int) (v46 : Int) (v49 : Int) (v53 : Int) (k57 : Nat) (x60 : Int) (v55 : Bool) (v56 : Int) : Option ((Bool × Int) ⊕ (Int × Int)) :=
  if ((decide (x60 = 95)) && (decide (v2 = 0))) then (internal_strconv_ParseUint_J9 true v56) else (if ((decide (48 ≤ x60)) && (decide (x60 ≤ 57))) then (internal_strconv_ParseUint_J10 v46 v49 v53 v55 v56 (IntKind.wrap .u8 (x60 - 48))) else ((m_internal_strconv_lower x60).bind fun (r72 : (Int)) => if decide (97 ≤ r72) then ((m_internal_strconv_lower x60).bind fun (r76 : (Int)) => internal_strconv_ParseUint_J11 v46 v49 v53 v55 v56 x60 (decide (r76 ≤ 122))) else (internal_strconv_ParseUint_J11 v46 v49 v53 v55 v56 x60 false)))
noncomputable def internal_strconv_ParseUint_J8 (v56 : Int) (v66 : Bool) : Option (Int × Int) :=
  if v66 then (some (0, 2)) else (some (v56, 0))
noncomputable def internal_strconv_ParseUint_E7 (v1 : Bs) (v55 : Bool) (v56 : Int) : Option (Int × Int) :=
  if v55 then ((m_internal_strconv_underscoreOK v1).bind fun (r63 : (Bool)) => internal_strconv_ParseUint_J8 v56 (!r63)) else (internal_strconv_ParseUint_J8 v56 false)
noncomputable def internal_strconv_ParseUint_J6 (v1 : Bs) (v2 : Int) (v45 : Bs) (v46 : Int) (v49 : Int) (v53 : Int) : Option (Int × Int) :=
  if (0 : Int) ≤ (IntKind.wrap .u64 v49) then (if (numsB v45).length ≤ 1000000000 then forL (fun (k : Nat) (x : Int) (s : Bool × Int) => internal_strconv_ParseUint_L7 v2 v46 v49 v53 k x s.1 s.2) (fun (s : Bool × Int) => internal_strconv_ParseUint_E7 v1 s.1 s.2) 0 (numsB v45) (false, 0) else none) else none
noncomputable def internal_strconv_ParseUint_J5 (v1 : Bs) (v2 : Int) (v45 : Bs) (v46 : Int) (v49 : Int) : Option (Int × Int) :=
  if decide (v46 = 10) then (internal_strconv_ParseUint_J6 v1 v2 v45 v46 v49 1844674407370955162) else (if decide (v46 = 16) then (internal_strconv_ParseUint_J6 v1 v2 v45 v46 v49 1152921504606846976) else (if (IntKind.wrap .u64 v46) ≠ 0 then (internal_strconv_ParseUint_J6 v1 v2 v45 v46 v49 (IntKind.wrap .u64 ((IntKind.wrap .u64 (Int.tdiv 18446744073709551615 (IntKind.wrap .u64 v46))) + 1))) else none))
noncomputable def internal_strconv_ParseUint_J1 (v1 : Bs) (v2 : Int) (v3 : Int) (v45 : Bs) (v46 : Int) : Option (Int × Int) :=
  if decide (v3 = 0) then (internal_strconv_ParseUint_J5 v1 v2 v45 v46 64) else (if ((decide (v3 < 0)) || (decide (64 < v3))) then (some (0, 4)) else (internal_strconv_ParseUint_J5 v1 v2 v45 v46 v3))
noncomputable def internal_strconv_ParseUint_J4 (v1 : Bs) (v2 : Int) (v3 : Int) (v39 : Bool) : Option (Int × Int) :=
  if v39 then ((sub? v1 2 (v1.length : Int)).bind fun (l41 : Bs) => internal_strconv_ParseUint_J1 v1 v2 v3 l41 16) else ((sub? v1 1 (v1.length : Int)).bind fun (l43 : Bs) => internal_strconv_ParseUint_J1 v1 v2 v3 l43 8)
noncomputable def internal_strconv_ParseUint_J3 (v1 : Bs) (v2 : Int) (v3 : Int) (v28 : Bool) : Option (Int × Int) :=
  if v28 then ((sub? v1 2 (v1.length : Int)).bind fun (l30 : Bs) => internal_strconv_ParseUint_J1 v1 v2 v3 l30 8) else (if decide (3 ≤ (v1.length : Int)) then ((v1[1]?).bind fun (x34 : UInt8) => (m_internal_strconv_lower (x34.toNat : Int)).bind fun (r36 : (Int)) => internal_strconv_ParseUint_J4 v1 v2 v3 (decide (r36 = 120))) else (internal_strconv_ParseUint_J4 v1 v2 v3 false))
noncomputable def internal_strconv_ParseUint_J2 (v1 : Bs) (v2 : Int) (v3 : Int) (v17 : Bool) : Option (Int × Int) :=
  if v17 then ((sub? v1 2 (v1.length : Int)).bind fun (l19 : Bs) => internal_strconv_ParseUint_J1 v1 v2 v3 l19 2) else (if decide (3 ≤ (v1.length : Int)) then ((v1[1]?).bind fun (x23 : UInt8) => (m_internal_strconv_lower (x23.toNat : Int)).bind fun (r25 : (Int)) => internal_strconv_ParseUint_J3 v1 v2 v3 (decide (r25 = 111))) else (internal_strconv_ParseUint_J3 v1 v2 v3 false))
noncomputable def m_internal_strconv_ParseUint (v1 : Bs) (v2 : Int) (v3 : Int) : Option (Int × Int) :=
  if decide (v1 = []) then (some (0, 2)) else (if ((decide (2 ≤ v2)) && (decide (v2 ≤ 36))) then (internal_strconv_ParseUint_J1 v1 v2 v3 v1 v2) else (if decide (v2 = 0) then ((v1[0]?).bind fun (x7 : UInt8) => if decide ((x7.toNat : Int) = 48) then (if decide (3 ≤ (v1.length : Int)) then ((v1[1]?).bind fun (x12 : UInt8) => (m_internal_strconv_lower (x12.toNat : Int)).bind fun (r14 : (Int)) => internal_strconv_ParseUint_J2 v1 v2 v3 (decide (r14 = 98))) else (internal_strconv_ParseUint_J2 v1 v2 v3 false)) else (internal_strconv_ParseUint_J1 v1 v2 v3 v1 10)) else (some (0, 3))))
noncomputable def m_strconv_ParseUint (s1 : Bs) (base2 : Int) (bitSize3 : Int) : Option (Int × Int) :=
  (m_internal_strconv_ParseUint s1 base2 bitSize3).bind fun (r4 : (Int × Int)) => if decide (r4.2 ≠ 0) then ((m_strconv_toError [80, 97, 114, 115, 101, 85, 105, 110, 116] s1 base2 bitSize3 r4.2).bind fun (r7 : (Int)) => some (r4.1, r7)) else (some (r4.1, 0))
noncomputable def m_message_unit (s1 : Bs) (v2 : Int) : Option (Int) :=
  (sub? s1 (wr (v2 + 1)) (wr (v2 + 3))).bind fun (l3 : Bs) => (m_strconv_ParseUint l3 16 8).bind fun (r5 : (Int × Int)) => if decide (r5.2 ≠ 0) then some 0 else (some (IntKind.wrap .u8 r5.1))
noncomputable def message_decoded_J3 (i22 : Int) (l23 : (List Int)) : Option ((Int × (List Int)) ⊕ (Bs × Bool)) :=
  some (.inl (wr (i22 + 1), l23))
noncomputable def message_decoded_J1 (l24 : (List Int)) : Option (Bs × Bool) :=
  if byR l24 = true then (some ((strN l24), true)) else none
noncomputable def message_decoded_L2 (s1 : Bs) (plus2 : Bool) (i3 : Int) (l4 : (List Int)) : Option ((Int × (List Int)) ⊕ (Bs × Bool)) :=
  if decide (i3 < (s1.length : Int)) then ((at? s1 i3).bind fun (x7 : UInt8) => if ((decide ((x7.toNat : Int) = 43)) && plus2) then ((m_strings_Builder_WriteByte l4 32).bind fun (r10 : (Int × (List Int))) => message_decoded_J3 i3 r10.2) else (if decide ((x7.toNat : Int) ≠ 37) then ((m_strings_Builder_WriteByte l4 (x7.toNat : Int)).bind fun (r13 : (Int × (List Int))) => message_decoded_J3 i3 r13.2) else ((m_message_isUnit s1 i3).bind fun (r15 : (Bool)) => if !r15 then (some (.inr ([], false))) else ((m_message_unit s1 i3).bind fun (r18 : (Int)) => (m_strings_Builder_WriteByte l4 r18).bind fun (r20 : (Int × (List Int))) => message_decoded_J3 (wr (i3 + 2)) r20.2)))) else (Option.map .inr (message_decoded_J1 l4))
noncomputable def m_message_decoded (s1 : Bs) (plus2 : Bool) : Option (Bs × Bool) :=
  iter (fun (s : Int × (List Int)) => message_decoded_L2 s1 plus2 s.1 s.2) (0, ([] : List Int))
noncomputable def message_ParseQuery_J2 (out24 : (List S_api_Pair)) : Option ((List S_api_Pair) ⊕ ((List S_api_Pair) × Int)) :=
  some (.inl out24)
noncomputable def message_ParseQuery_L1 (k8 : Nat) (x11 : Bs) (l7 : (List S_api_Pair)) : Option ((List S_api_Pair) ⊕ ((List S_api_Pair) × Int)) :=
  if decide (x11 = []) then (message_ParseQuery_J2 l7) else ((m_strings_Cut x11 [61]).bind fun (r16 : (Bs × Bs × Bool)) => (m_message_decoded r16.1 true).bind fun (r18 : (Bs × Bool)) => (m_message_decoded r16.2.1 true).bind fun (r20 : (Bs × Bool)) => if ((!r18.2) || (!r20.2)) then (some (.inr ([], 9))) else (if l7.length + 1 ≤ 1000000000 then (message_ParseQuery_J2 (l7 ++ [(S_api_Pair.mk r18.1 r20.1)])) else none))
noncomputable def message_ParseQuery_E1 (l7 : (List S_api_Pair)) : Option ((List S_api_Pair) × Int) :=
  if decide (100 < (l7.length : Int)) then (some ([], 2)) else (some (l7, 0))
noncomputable def m_message_ParseQuery (s1 : Bs) : Option ((List S_api_Pair) × Int) :=
  (m_message_queryFault s1).bind fun (r2 : (Int)) => if decide (r2 ≠ 0) then (some ([], r2)) else ((m_strings_Split s1 [38]).bind fun (r5 : ((List Bs))) => if r5.length ≤ 1000000000 then forL (fun (k : Nat) (x : Bs) (s : (List S_api_Pair)) => message_ParseQuery_L1 k x s) (fun (s : (List S_api_Pair)) => message_ParseQuery_E1 s) 0 r5 [] else none)
noncomputable def gateref2_visible_J2 (v12 : Bool) : Option (Unit ⊕ (Bool)) :=
  if v12 then (some (.inr false)) else (some (.inl ()))
noncomputable def gateref2_visible_L1 (low2 : Int) (k3 : Nat) (x6 : UInt8) : Option (Unit ⊕ (Bool)) :=
  if decide ((x6.toNat : Int) < low2) then (gateref2_visible_J2 true) else (gateref2_visible_J2 (decide (126 < (x6.toNat : Int))))
noncomputable def gateref2_visible_E1 : Option (Bool) :=
  some true
noncomputable def m_gateref2_visible (s1 : Bs) (low2 : Int) : Option (Bool) :=
  if s1.length ≤ 1000000000 then forL (fun (k : Nat) (x : UInt8) (s : Unit) => gateref2_visible_L1 low2 k x) (fun (s : Unit) => gateref2_visible_E1) 0 s1 () else none
noncomputable def gateref2_queryForm_J1 (v12 : Bool) : Option (Bool) :=
  some v12
noncomputable def m_gateref2_queryForm (s1 : Bs) : Option (Bool) :=
  if decide ((s1.length : Int) ≤ 1000) then ((m_gateref2_visible s1 33).bind fun (r4 : (Bool)) => if r4 then ((m_strings_Contains s1 [35]).bind fun (r8 : (Bool)) => gateref2_queryForm_J1 (!r8)) else (gateref2_queryForm_J1 false)) else (gateref2_queryForm_J1 false)
noncomputable def gateref2_units_J1 (out21 : (List S_gateref2_unit)) : Option ((List S_gateref2_unit) × Bool) :=
  some (out21, true)
noncomputable def gateref2_units_L2 (s2 : Bs) (l3 : (List S_gateref2_unit)) : Option ((Bs × (List S_gateref2_unit)) ⊕ ((List S_gateref2_unit) × Bool)) :=
  if decide (s2 ≠ []) then ((s2[0]?).bind fun (x6 : UInt8) => if decide ((x6.toNat : Int) ≠ 37) then (if l3.length + 1 ≤ 1000000000 then ((sub? s2 1 (s2.length : Int)).bind fun (l10 : Bs) => some (.inl (l10, (l3 ++ [(S_gateref2_unit.mk (x6.toNat : Int) true)])))) else none) else (if decide ((s2.length : Int) < 3) then (some (.inr ([], false))) else ((sub? s2 1 3).bind fun (l13 : Bs) => (m_strconv_ParseUint l13 16 8).bind fun (r15 : (Int × Int)) => if decide (r15.2 ≠ 0) then (some (.inr ([], false))) else (if l3.length + 1 ≤ 1000000000 then ((sub? s2 3 (s2.length : Int)).bind fun (l19 : Bs) => some (.inl (l19, (l3 ++ [(S_gateref2_unit.mk (IntKind.wrap .u8 r15.1) false)])))) else none)))) else (Option.map .inr (gateref2_units_J1 l3))
noncomputable def m_gateref2_units (s1 : Bs) : Option ((List S_gateref2_unit) × Bool) :=
  iter (fun (s : Bs × (List S_gateref2_unit)) => gateref2_units_L2 s.1 s.2) (s1, [])
noncomputable def gateref2_bytesOf_L1 (k5 : Nat) (x8 : S_gateref2_unit) (l4 : (List Int)) : Option ((List Int) ⊕ (Bs)) :=
  if l4.length + 1 ≤ 1000000000 then (some (.inl (l4 ++ [x8.c_]))) else none
noncomputable def gateref2_bytesOf_E1 (l4 : (List Int)) : Option (Bs) :=
  some (strN l4)
noncomputable def m_gateref2_bytesOf (s1 : Bs) : Option (Bs) :=
  (m_gateref2_units s1).bind fun (r2 : ((List S_gateref2_unit) × Bool)) => if r2.1.length ≤ 1000000000 then forL (fun (k : Nat) (x : S_gateref2_unit) (s : (List Int)) => gateref2_bytesOf_L1 k x s) (fun (s : (List Int)) => gateref2_bytesOf_E1 s) 0 r2.1 [] else none
noncomputable def gateref2_QueryOf_J2 (out28 : (List S_api_Pair)) : Option ((List S_api_Pair) ⊕ ((List S_api_Pair) × Int)) :=
  some (.inl out28)
noncomputable def gateref2_QueryOf_L1 (k11 : Nat) (x14 : Bs) (l10 : (List S_api_Pair)) : Option ((List S_api_Pair) ⊕ ((List S_api_Pair) × Int)) :=
  if decide (x14 = []) then (gateref2_QueryOf_J2 l10) else ((m_strings_ReplaceAll x14 [43] [37, 50, 48]).bind fun (r19 : (Bs)) => (m_strings_Cut r19 [61]).bind fun (r21 : (Bs × Bs × Bool)) => (m_gateref2_bytesOf r21.1).bind fun (r23 : (Bs)) => (m_gateref2_bytesOf r21.2.1).bind fun (r25 : (Bs)) => if l10.length + 1 ≤ 1000000000 then (gateref2_QueryOf_J2 (l10 ++ [(S_api_Pair.mk r23 r25)])) else none)
noncomputable def gateref2_QueryOf_E1 (l10 : (List S_api_Pair)) : Option ((List S_api_Pair) × Int) :=
  if decide (100 < (l10.length : Int)) then (some ([], 2)) else (some (l10, 0))
noncomputable def m_gateref2_QueryOf (s1 : Bs) : Option ((List S_api_Pair) × Int) :=
  (m_gateref2_queryForm s1).bind fun (r2 : (Bool)) => if !r2 then (some ([], 3)) else ((m_gateref2_units s1).bind fun (r5 : ((List S_gateref2_unit) × Bool)) => if !r5.2 then (some ([], 9)) else ((m_strings_Split s1 [38]).bind fun (r8 : ((List Bs))) => if r8.length ≤ 1000000000 then forL (fun (k : Nat) (x : Bs) (s : (List S_api_Pair)) => gateref2_QueryOf_L1 k x s) (fun (s : (List S_api_Pair)) => gateref2_QueryOf_E1 s) 0 r8 [] else none))
noncomputable def m_message_isLetter (c1 : Int) : Option (Bool) :=
  some (((decide (97 ≤ c1)) && (decide (c1 ≤ 122))) || ((decide (65 ≤ c1)) && (decide (c1 ≤ 90))))
noncomputable def message_isFree_J1 (v14 : Bool) : Option (Bool) :=
  some v14
noncomputable def m_message_isFree (c1 : Int) : Option (Bool) :=
  (m_message_isLetter c1).bind fun (r2 : (Bool)) => if r2 then (message_isFree_J1 true) else ((m_message_isDigit c1).bind fun (r6 : (Bool)) => if r6 then (message_isFree_J1 true) else ((m_strings_IndexByte [45, 46, 95, 126] c1).bind fun (r10 : (Int)) => message_isFree_J1 (decide (0 ≤ r10))))
noncomputable def m_message_percent (c1 : Int) : Option (Bs) :=
  (at? [48, 49, 50, 51, 52, 53, 54, 55, 56, 57, 65, 66, 67, 68, 69, 70] (shr_ .u8 c1 4)).bind fun (x2 : UInt8) => (at? [48, 49, 50, 51, 52, 53, 54, 55, 56, 57, 65, 66, 67, 68, 69, 70] (and_ .u8 c1 15)).bind fun (x4 : UInt8) => some (strN [37, (x2.toNat : Int), (x4.toNat : Int)])
noncomputable def m_strings_Builder_WriteString (l1 : (List Int)) (s2 : Bs) : Option (Int × Int × (List Int)) :=
  if l1.length + s2.length ≤ 1000000000 then (some ((s2.length : Int), 0, (l1 ++ numsB s2))) else none
noncomputable def message_queryWord_J2 (l22 : (List Int)) : Option ((List Int) ⊕ (Bs)) :=
  some (.inl l22)
noncomputable def message_queryWord_L1 (k3 : Nat) (x6 : UInt8) (l2 : (List Int)) : Option ((List Int) ⊕ (Bs)) :=
  if decide ((x6.toNat : Int) = 32) then ((m_strings_Builder_WriteByte l2 43).bind fun (r11 : (Int × (List Int))) => message_queryWord_J2 r11.2) else ((m_message_isFree (x6.toNat : Int)).bind fun (r13 : (Bool)) => if r13 then ((m_strings_Builder_WriteByte l2 (x6.toNat : Int)).bind fun (r16 : (Int × (List Int))) => message_queryWord_J2 r16.2) else ((m_message_percent (x6.toNat : Int)).bind fun (r18 : (Bs)) => (m_strings_Builder_WriteString l2 r18).bind fun (r20 : (Int × Int × (List Int))) => message_queryWord_J2 r20.2.2))
noncomputable def message_queryWord_E1 (l2 : (List Int)) : Option (Bs) :=
  if byR l2 = true then (some (strN l2)) else none
noncomputable def m_message_queryWord (s1 : Bs) : Option (Bs) :=
  if s1.length ≤ 1000000000 then forL (fun (k : Nat) (x : UInt8) (s : (List Int)) => message_queryWord_L1 k x s) (fun (s : (List Int)) => message_queryWord_E1 s) 0 s1 ([] : List Int) else none
noncomputable def message_QueryText_L1 (k4 : Nat) (x7 : S_api_Pair) (l3 : (List Bs)) : Option ((List Bs) ⊕ (Bs × Int)) :=
  if ((x7.Name == []) && ((x7.Value == []) && true)) then (some (.inr ([], 3))) else ((m_message_queryWord x7.Name).bind fun (r14 : (Bs)) => if r14.length + [61].length ≤ 1000000000 then ((m_message_queryWord x7.Value).bind fun (r17 : (Bs)) => if (r14 ++ [61]).length + r17.length ≤ 1000000000 then (if l3.length + 1 ≤ 1000000000 then (some (.inl (l3 ++ ([((r14 ++ [61]) ++ r17)])))) else none) else none) else none)
noncomputable def message_QueryText_E1 (l3 : (List Bs)) : Option (Bs × Int) :=
  (m_strings_Join l3 [38]).bind fun (r8 : (Bs)) => if decide (1000 < (r8.length : Int)) then (some ([], 2)) else (some (r8, 0))
noncomputable def m_message_QueryText (l1 : (List S_api_Pair)) : Option (Bs × Int) :=
  if decide (100 < (l1.length : Int)) then (some ([], 2)) else (if l1.length ≤ 1000000000 then forL (fun (k : Nat) (x : S_api_Pair) (s : (List Bs)) => message_QueryText_L1 k x s) (fun (s : (List Bs)) => message_QueryText_E1 s) 0 l1 [] else none)
noncomputable def m_gateref2_digits0 (n1 : Int) : Option (Bs) :=
  (sub? [48, 49, 50, 51, 52, 53, 54, 55, 56, 57, 65, 66, 67, 68, 69, 70] n1 (IntKind.wrap .u8 (n1 + 1))).bind fun (l2 : Bs) => some l2
noncomputable def m_gateref2_coded (c1 : Int) : Option (Bs) :=
  (m_gateref2_digits0 (shr_ .u8 c1 4)).bind fun (r2 : (Bs)) => if [37].length + r2.length ≤ 1000000000 then ((m_gateref2_digits0 (and_ .u8 c1 15)).bind fun (r5 : (Bs)) => if ([37] ++ r2).length + r5.length ≤ 1000000000 then (some (([37] ++ r2) ++ r5)) else none) else none
noncomputable def gateref2_queryPart_J2 (out18 : (List Int)) : Option ((List Int) ⊕ (Bs)) :=
  some (.inl out18)
noncomputable def gateref2_queryPart_L1 (k3 : Nat) (x6 : UInt8) (l2 : (List Int)) : Option ((List Int) ⊕ (Bs)) :=
  if decide ((x6.toNat : Int) = 32) then (if l2.length + 1 ≤ 1000000000 then (gateref2_queryPart_J2 (l2 ++ [43])) else none) else ((m_strings_IndexByte [97, 98, 99, 100, 101, 102, 103, 104, 105, 106, 107, 108, 109, 110, 111, 112, 113, 114, 115, 116, 117, 118, 119, 120, 121, 122, 65, 66, 67, 68, 69, 70, 71, 72, 73, 74, 75, 76, 77, 78, 79, 80, 81, 82, 83, 84, 85, 86, 87, 88, 89, 90, 48, 49, 50, 51, 52, 53, 54, 55, 56, 57, 45, 46, 95, 126] (x6.toNat : Int)).bind fun (r11 : (Int)) => if decide (0 ≤ r11) then (if l2.length + 1 ≤ 1000000000 then (gateref2_queryPart_J2 (l2 ++ [(x6.toNat : Int)])) else none) else ((m_gateref2_coded (x6.toNat : Int)).bind fun (r15 : (Bs)) => if l2.length + r15.length ≤ 1000000000 then (gateref2_queryPart_J2 (l2 ++ numsB r15)) else none))
noncomputable def gateref2_queryPart_E1 (l2 : (List Int)) : Option (Bs) :=
  some (strN l2)
noncomputable def m_gateref2_queryPart (s1 : Bs) : Option (Bs) :=
  if s1.length ≤ 1000000000 then forL (fun (k : Nat) (x : UInt8) (s : (List Int)) => gateref2_queryPart_L1 k x s) (fun (s : (List Int)) => gateref2_queryPart_E1 s) 0 s1 [] else none
noncomputable def gateref2_QueryFrom_L1 (k4 : Nat) (x7 : S_api_Pair) (l3 : (List Bs)) : Option ((List Bs) ⊕ (Bs × Int)) :=
  if ((decide (x7.Name = [])) && (decide (x7.Value = []))) then (some (.inr ([], 3))) else ((m_gateref2_queryPart x7.Name).bind fun (r14 : (Bs)) => if r14.length + [61].length ≤ 1000000000 then ((m_gateref2_queryPart x7.Value).bind fun (r17 : (Bs)) => if (r14 ++ [61]).length + r17.length ≤ 1000000000 then (if l3.length + 1 ≤ 1000000000 then (some (.inl (l3 ++ ([((r14 ++ [61]) ++ r17)])))) else none) else none) else none)
noncomputable def gateref2_QueryFrom_E1 (l3 : (List Bs)) : Option (Bs × Int) :=
  (m_strings_Join l3 [38]).bind fun (r8 : (Bs)) => if decide (1000 < (r8.length : Int)) then (some ([], 2)) else (some (r8, 0))
noncomputable def m_gateref2_QueryFrom (l1 : (List S_api_Pair)) : Option (Bs × Int) :=
  if decide (100 < (l1.length : Int)) then (some ([], 2)) else (if l1.length ≤ 1000000000 then forL (fun (k : Nat) (x : S_api_Pair) (s : (List Bs)) => gateref2_QueryFrom_L1 k x s) (fun (s : (List Bs)) => gateref2_QueryFrom_E1 s) 0 l1 [] else none)
noncomputable def slices_Equal_L_api_Pair_api_Pair__L1 (s2 : (List S_api_Pair)) (k4 : Nat) (x7 : S_api_Pair) : Option (Unit ⊕ (Bool)) :=
  (s2[k4]?).bind fun (x10 : S_api_Pair) => if (!((x7.Name == x10.Name) && ((x7.Value == x10.Value) && true))) then (some (.inr false)) else (some (.inl ()))
noncomputable def slices_Equal_L_api_Pair_api_Pair__E1 : Option (Bool) :=
  some true
noncomputable def m_slices_Equal_L_api_Pair_api_Pair_ (s1 : (List S_api_Pair)) (s2 : (List S_api_Pair)) : Option (Bool) :=
  if decide ((s1.length : Int) ≠ (s2.length : Int)) then some false else (if s1.length ≤ 1000000000 then forL (fun (k : Nat) (x : S_api_Pair) (s : Unit) => slices_Equal_L_api_Pair_api_Pair__L1 s2 k x) (fun (s : Unit) => slices_Equal_L_api_Pair_api_Pair__E1) 0 s1 () else none)
noncomputable def message_PathFault_J1 (v17 : Bool) : Option (Int) :=
  if v17 then some 3 else some 0
noncomputable def m_message_PathFault (s1 : Bs) : Option (Int) :=
  if decide (1000 < (s1.length : Int)) then (message_PathFault_J1 true) else ((m_strings_HasPrefix s1 [47]).bind fun (r4 : (Bool)) => if !r4 then (message_PathFault_J1 true) else ((m_message_isRange s1 33 126).bind fun (r8 : (Bool)) => if !r8 then (message_PathFault_J1 true) else ((m_strings_ContainsAny s1 [63, 35]).bind fun (r12 : (Bool)) => message_PathFault_J1 r12)))
noncomputable def message_normalUnits_J3 (i26 : Int) (l27 : (List Int)) : Option ((Int × (List Int)) ⊕ (Bs × Bool)) :=
  some (.inl (wr (i26 + 1), l27))
noncomputable def message_normalUnits_J4 (i2 : Int) (l25 : (List Int)) : Option ((Int × (List Int)) ⊕ (Bs × Bool)) :=
  message_normalUnits_J3 (wr (i2 + 2)) l25
noncomputable def message_normalUnits_J1 (l28 : (List Int)) : Option (Bs × Bool) :=
  if byR l28 = true then (some ((strN l28), true)) else none
noncomputable def message_normalUnits_L2 (s1 : Bs) (i2 : Int) (l3 : (List Int)) : Option ((Int × (List Int)) ⊕ (Bs × Bool)) :=
  if decide (i2 < (s1.length : Int)) then ((at? s1 i2).bind fun (x6 : UInt8) => if decide ((x6.toNat : Int) ≠ 37) then ((m_strings_Builder_WriteByte l3 (x6.toNat : Int)).bind fun (r9 : (Int × (List Int))) => message_normalUnits_J3 i2 r9.2) else ((m_message_isUnit s1 i2).bind fun (r11 : (Bool)) => if !r11 then (some (.inr ([], false))) else ((m_message_unit s1 i2).bind fun (r14 : (Int)) => (m_message_isFree r14).bind fun (r16 : (Bool)) => if r16 then ((m_strings_Builder_WriteByte l3 r14).bind fun (r19 : (Int × (List Int))) => message_normalUnits_J4 i2 r19.2) else ((m_message_percent r14).bind fun (r21 : (Bs)) => (m_strings_Builder_WriteString l3 r21).bind fun (r23 : (Int × Int × (List Int))) => message_normalUnits_J4 i2 r23.2.2)))) else (Option.map .inr (message_normalUnits_J1 l3))
noncomputable def m_message_normalUnits (s1 : Bs) : Option (Bs × Bool) :=
  iter (fun (s : Int × (List Int)) => message_normalUnits_L2 s1 s.1 s.2) (0, ([] : List Int))
noncomputable def message_NormalPath_J2 (out29 : (List Bs)) : Option ((List Bs) ⊕ (Bs × Int)) :=
  some (.inl out29)
noncomputable def message_NormalPath_J3 (r10 : ((List Bs))) (k13 : Nat) (out26 : (List Bs)) : Option ((List Bs) ⊕ (Bs × Int)) :=
  if decide ((k13 : Int) = (wr ((r10.length : Int) - 1))) then (if out26.length + 1 ≤ 1000000000 then (message_NormalPath_J2 (out26 ++ ([[]]))) else none) else (message_NormalPath_J2 out26)
noncomputable def message_NormalPath_L1 (r10 : ((List Bs))) (k13 : Nat) (x16 : Bs) (l12 : (List Bs)) : Option ((List Bs) ⊕ (Bs × Int)) :=
  if decide (x16 = [46]) then (message_NormalPath_J3 r10 k13 l12) else (if decide (x16 = [46, 46]) then (if (0 : Int) ≤ (max (wr ((l12.length : Int) - 1)) 0) ∧ (max (wr ((l12.length : Int) - 1)) 0) ≤ (l12.length : Int) then (message_NormalPath_J3 r10 k13 (l12.take (max (wr ((l12.length : Int) - 1)) 0).toNat)) else none) else (if l12.length + 1 ≤ 1000000000 then (message_NormalPath_J2 (l12 ++ [x16])) else none))
noncomputable def message_NormalPath_E1 (l12 : (List Bs)) : Option (Bs × Int) :=
  (m_strings_Join l12 [47]).bind fun (r17 : (Bs)) => if [47].length + r17.length ≤ 1000000000 then (some (([47] ++ r17), 0)) else none
noncomputable def m_message_NormalPath (s1 : Bs) : Option (Bs × Int) :=
  (m_message_PathFault s1).bind fun (r2 : (Int)) => if decide (r2 ≠ 0) then (some ([], r2)) else ((m_message_normalUnits s1).bind fun (r5 : (Bs × Bool)) => if !r5.2 then (some ([], 9)) else ((sub? r5.1 1 (r5.1.length : Int)).bind fun (l8 : Bs) => (m_strings_Split l8 [47]).bind fun (r10 : ((List Bs))) => if r10.length ≤ 1000000000 then forL (fun (k : Nat) (x : Bs) (s : (List Bs)) => message_NormalPath_L1 r10 k x s) (fun (s : (List Bs)) => message_NormalPath_E1 s) 0 r10 [] else none))
noncomputable def m_gatelaw2_spoken  : Option (Bool) :=
  (m_message_NormalPath [47, 97, 47, 46, 46, 47, 98]).bind fun (r1 : (Bs × Int)) => some ((decide (r1.2 = 0)) && (decide (r1.1 = [47, 98])))
noncomputable def gatelaw2_QueriesRead_J3 (v41 : Bool) : Option (Bool) :=
  some v41
noncomputable def gatelaw2_QueriesRead_J2 (r2 : (Bs × S_gatemake_Stream)) (v16 : (List S_api_Pair)) : Option (Bool) :=
  (m_message_ParseQuery r2.1).bind fun (r17 : ((List S_api_Pair) × Int)) => (m_gateref2_QueryOf r2.1).bind fun (r19 : ((List S_api_Pair) × Int)) => (m_message_QueryText v16).bind fun (r21 : (Bs × Int)) => (m_gateref2_QueryFrom v16).bind fun (r23 : (Bs × Int)) => (m_slices_Equal_L_api_Pair_api_Pair_ r17.1 r19.1).bind fun (r25 : (Bool)) => if r25 then (if decide (r17.2 = r19.2) then (if decide (r21.1 = r23.1) then (if decide (r21.2 = r23.2) then ((m_gatelaw2_spoken ).bind fun (r35 : (Bool)) => gatelaw2_QueriesRead_J3 r35) else (gatelaw2_QueriesRead_J3 false)) else (gatelaw2_QueriesRead_J3 false)) else (gatelaw2_QueriesRead_J3 false)) else (gatelaw2_QueriesRead_J3 false)
noncomputable def gatelaw2_QueriesRead_L1 (k9 : Nat) (c6 : (List Int)) (c7 : Int) (l8 : (List S_api_Pair)) : Option (((List Int) × Int × (List S_api_Pair)) ⊕ (Bool)) :=
  (m_gatemake_Stream_Some (S_gatemake_Stream.mk c6 c7) ([[97], [98], [97, 32, 98], [120, 38, 121], [195, 169]])).bind fun (r43 : (Bs × S_gatemake_Stream)) => (m_gatemake_Stream_Some r43.2 ([[], [49], [61], [43], [0]])).bind fun (r45 : (Bs × S_gatemake_Stream)) => if l8.length + 1 ≤ 1000000000 then (some (.inl (r45.2.L, r45.2.at_, (l8 ++ [(S_api_Pair.mk r43.1 r45.1)])))) else none
noncomputable def gatelaw2_QueriesRead_E1 (r2 : (Bs × S_gatemake_Stream)) (c6 : (List Int)) (c7 : Int) (l8 : (List S_api_Pair)) : Option (Bool) :=
  (m_gatemake_Stream_Flip (S_gatemake_Stream.mk c6 c7) 12).bind fun (r12 : (Bool × S_gatemake_Stream)) => if r12.1 then (if l8.length + 1 ≤ 1000000000 then (gatelaw2_QueriesRead_J2 r2 (l8 ++ ([(S_api_Pair.mk [] [])]))) else none) else (gatelaw2_QueriesRead_J2 r2 l8)
noncomputable def m_gatelaw2_QueriesRead (v1 : (List Int)) : Option (Bool) :=
  (m_gatemake_Stream_QueryName (S_gatemake_Stream.mk v1 0)).bind fun (r2 : (Bs × S_gatemake_Stream)) => (m_gatemake_Stream_Range r2.2 0 4).bind fun (r4 : (Int × S_gatemake_Stream)) => if r4.1 ≤ 1000000000 then rng (fun (k : Nat) (s : (List Int) × Int × (List S_api_Pair)) => gatelaw2_QueriesRead_L1 k s.1 s.2.1 s.2.2) (fun (s : (List Int) × Int × (List S_api_Pair)) => gatelaw2_QueriesRead_E1 r2 s.1 s.2.1 s.2.2) r4.1.toNat 0 (r4.2.L, r4.2.at_, []) else none
end Go.Proofs.YtmhghppkbppbjaaGreatDoor
