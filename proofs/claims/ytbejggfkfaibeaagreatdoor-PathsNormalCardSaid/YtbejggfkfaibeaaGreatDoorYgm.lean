/- Plain models of functions. Printed by a program. -/
import Derived.Test.YtbejggfkfaibeaaGreatDoorMc
import Derived.Test.YtbejggfkfaibeaaGreatDoorRng
import Derived.Test.YtbejggfkfaibeaaGreatDoorMk
namespace Go.Proofs.YtbejggfkfaibeaaGreatDoor
set_option linter.unusedVariables false
set_option maxRecDepth 20000
structure S_gatemake_Stream where
  L : (List Int)
  at_ : Int
structure S_gateref2_unit where
  c_ : Int
  plain_ : Bool
noncomputable def gatemake_Below_J1 (x6 : Int) : Option (Int) :=
  some x6
noncomputable def m_gatemake_Below (x1 : Int) (n2 : Int) : Option (Int) :=
  if decide (n2 < 1) then some 0 else (if n2 ≠ 0 then (if decide ((Int.tmod x1 n2) < 0) then (gatemake_Below_J1 (wr ((Int.tmod x1 n2) + n2))) else (gatemake_Below_J1 (Int.tmod x1 n2))) else none)
noncomputable def m_gatemake_Stream_Next (s1 : S_gatemake_Stream) (n2 : Int) : Option (Int × S_gatemake_Stream) :=
  if decide ((s1.L.length : Int) = 0) then ((m_gatemake_Below (wr ((wr (s1.at_ + 1)) * 7919)) n2).bind fun (r4 : (Int)) => some (r4, (S_gatemake_Stream.mk s1.L (wr (s1.at_ + 1))))) else (if (s1.L.length : Int) ≠ 0 then (if ((0 : Int) ≤ (wr ((wr (s1.at_ + 1)) - 1)) ∧ (wr ((wr (s1.at_ + 1)) - 1)) ≤ 9223372036854775807) ∧ (0 : Int) < (s1.L.length : Int) then ((at? s1.L (Int.tmod (wr ((wr (s1.at_ + 1)) - 1)) (s1.L.length : Int))).bind fun (x8 : Int) => (m_gatemake_Below x8 1073741824).bind fun (r10 : (Int)) => (m_gatemake_Below (wr (r10 + (wr (((wr ((wr (s1.at_ + 1)) - 1)) / (s1.L.length : Int)) * (wr (7919 + (Int.tmod (wr ((wr (s1.at_ + 1)) - 1)) (s1.L.length : Int)))))))) n2).bind fun (r12 : (Int)) => some (r12, (S_gatemake_Stream.mk s1.L (wr (s1.at_ + 1))))) else none) else none)
noncomputable def m_gatemake_Stream_Some (s1 : S_gatemake_Stream) (l2 : (List Bs)) : Option (Bs × S_gatemake_Stream) :=
  (m_gatemake_Stream_Next s1 (l2.length : Int)).bind fun (r3 : (Int × S_gatemake_Stream)) => (at? l2 r3.1).bind fun (x5 : Bs) => some (x5, r3.2)
noncomputable def m_gatemake_Stream_HostName (s1 : S_gatemake_Stream) : Option (Bs × S_gatemake_Stream) :=
  (m_strings_Repeat [97] 64).bind fun (r2 : (Bs)) => (m_gatemake_Stream_Some s1 ([[97, 46, 98], [97, 46, 98], [65, 46, 66], [115, 104, 111, 112, 46, 101, 120, 97, 109, 112, 108, 101], [97, 46, 98, 58, 56, 48], [97, 46, 98, 58, 52, 52, 51], [97, 46, 98, 58, 56, 48, 56, 48], [120, 45, 49, 46, 121], [49, 46, 50, 46, 51, 46, 52], [], [97, 46, 46, 98], [45, 97, 46, 98], [97, 46, 98, 58, 48], [97, 46, 98, 58, 48, 56], [97, 46, 98, 58, 54, 53, 53, 51, 54], [97, 95, 98], [97, 46, 98, 58], [97, 32, 98], r2])).bind fun (r4 : (Bs × S_gatemake_Stream)) => some (r4.1, r4.2)
noncomputable def m_gatemake_Stream_Range (s1 : S_gatemake_Stream) (low2 : Int) (high3 : Int) : Option (Int × S_gatemake_Stream) :=
  if decide (high3 < low2) then (some (low2, s1)) else ((m_gatemake_Stream_Next s1 (wr ((wr (high3 - low2)) + 1))).bind fun (r5 : (Int × S_gatemake_Stream)) => some (wr (low2 + r5.1), r5.2))
noncomputable def gatemake_Stream_Words_L1 (l4 : (List Bs)) (k8 : Nat) (c5 : (List Int)) (c6 : Int) (l7 : (List Bs)) : Option (((List Int) × Int × (List Bs)) ⊕ (Bs × S_gatemake_Stream)) :=
  (m_gatemake_Stream_Some (S_gatemake_Stream.mk c5 c6) l4).bind fun (r14 : (Bs × S_gatemake_Stream)) => if l7.length + 1 ≤ 1000000000 then (some (.inl (r14.2.L, r14.2.at_, (l7 ++ [r14.1])))) else none
noncomputable def gatemake_Stream_Words_E1 (between3 : Bs) (c5 : (List Int)) (c6 : Int) (l7 : (List Bs)) : Option (Bs × S_gatemake_Stream) :=
  (m_strings_Join l7 between3).bind fun (r11 : (Bs)) => some (r11, (S_gatemake_Stream.mk c5 c6))
noncomputable def m_gatemake_Stream_Words (s1 : S_gatemake_Stream) (many2 : Int) (between3 : Bs) (l4 : (List Bs)) : Option (Bs × S_gatemake_Stream) :=
  if many2 ≤ 1000000000 then rng (fun (k : Nat) (s : (List Int) × Int × (List Bs)) => gatemake_Stream_Words_L1 l4 k s.1 s.2.1 s.2.2) (fun (s : (List Int) × Int × (List Bs)) => gatemake_Stream_Words_E1 between3 s.1 s.2.1 s.2.2) many2.toNat 0 (s1.L, s1.at_, []) else none
noncomputable def m_gatemake_Stream_Flip (s1 : S_gatemake_Stream) (n2 : Int) : Option (Bool × S_gatemake_Stream) :=
  (m_gatemake_Stream_Next s1 n2).bind fun (r3 : (Int × S_gatemake_Stream)) => some (decide (r3.1 = 0), r3.2)
noncomputable def m_gatemake_Stream_Changed (s1 : S_gatemake_Stream) (t2 : Bs) (v3 : Bs) : Option (Bs × S_gatemake_Stream) :=
  if ((decide (t2 = [])) || (decide (v3 = []))) then (some (v3, s1)) else ((m_gatemake_Stream_Next s1 (t2.length : Int)).bind fun (r5 : (Int × S_gatemake_Stream)) => (m_gatemake_Stream_Next r5.2 (v3.length : Int)).bind fun (r7 : (Int × S_gatemake_Stream)) => (at? v3 r7.1).bind fun (x9 : UInt8) => (m_gatemake_Stream_Next r7.2 3).bind fun (r11 : (Int × S_gatemake_Stream)) => if decide (r11.1 = 0) then ((sub? t2 0 r5.1).bind fun (l14 : Bs) => if l14.length + (encL (IntKind.wrap .i32 (x9.toNat : Int))).length ≤ 1000000000 then ((sub? t2 (wr (r5.1 + 1)) (t2.length : Int)).bind fun (l17 : Bs) => if (l14 ++ (encL (IntKind.wrap .i32 (x9.toNat : Int)))).length + l17.length ≤ 1000000000 then (some (((l14 ++ (encL (IntKind.wrap .i32 (x9.toNat : Int)))) ++ l17), r11.2)) else none) else none) else (if decide (r11.1 = 1) then ((sub? t2 0 r5.1).bind fun (l21 : Bs) => if l21.length + (encL (IntKind.wrap .i32 (x9.toNat : Int))).length ≤ 1000000000 then ((sub? t2 r5.1 (t2.length : Int)).bind fun (l24 : Bs) => if (l21 ++ (encL (IntKind.wrap .i32 (x9.toNat : Int)))).length + l24.length ≤ 1000000000 then (some (((l21 ++ (encL (IntKind.wrap .i32 (x9.toNat : Int)))) ++ l24), r11.2)) else none) else none) else ((sub? t2 0 r5.1).bind fun (l27 : Bs) => (sub? t2 (wr (r5.1 + 1)) (t2.length : Int)).bind fun (l29 : Bs) => if l27.length + l29.length ≤ 1000000000 then (some ((l27 ++ l29), r11.2)) else none)))
noncomputable def gatemake_Stream_PathName_J2 (p23 : Bs) (c24 : (List Int)) (c25 : Int) : Option (Bs × S_gatemake_Stream) :=
  some (p23, (S_gatemake_Stream.mk c24 c25))
noncomputable def gatemake_Stream_PathName_J1 (p15 : Bs) (c16 : (List Int)) (c17 : Int) : Option (Bs × S_gatemake_Stream) :=
  (m_gatemake_Stream_Flip (S_gatemake_Stream.mk c16 c17) 12).bind fun (r18 : (Bool × S_gatemake_Stream)) => if r18.1 then ((m_gatemake_Stream_Changed r18.2 p15 [47, 46, 37, 50, 102, 65]).bind fun (r21 : (Bs × S_gatemake_Stream)) => gatemake_Stream_PathName_J2 r21.1 r21.2.L r21.2.at_) else (gatemake_Stream_PathName_J2 p15 r18.2.L r18.2.at_)
noncomputable def m_gatemake_Stream_PathName (s1 : S_gatemake_Stream) : Option (Bs × S_gatemake_Stream) :=
  (m_gatemake_Stream_Range s1 0 4).bind fun (r2 : (Int × S_gatemake_Stream)) => (m_gatemake_Stream_Words r2.2 r2.1 [47] ([[97], [98], [37, 52, 49], [37, 50, 102], [37, 55, 101], [46], [46, 46], [], [120, 59, 121], [99, 37, 50, 48, 100], [37, 99, 51, 37, 97, 52], [65], [97, 46, 98], [126]])).bind fun (r4 : (Bs × S_gatemake_Stream)) => if [47].length + r4.1.length ≤ 1000000000 then ((m_gatemake_Stream_Flip r4.2 12).bind fun (r7 : (Bool × S_gatemake_Stream)) => if r7.1 then ((m_strings_Repeat [37, 50, 48] 340).bind fun (r10 : (Bs)) => if [47].length + r10.length ≤ 1000000000 then ((m_gatemake_Stream_Some r7.2 ([[], [97], [47, 97, 63, 98], [47, 97, 35], [47, 37], [47, 37, 52], [47, 37, 122, 122], [47, 127], [47, 97, 32, 98], ([47] ++ r10)])).bind fun (r13 : (Bs × S_gatemake_Stream)) => gatemake_Stream_PathName_J1 r13.1 r13.2.L r13.2.at_) else none) else (gatemake_Stream_PathName_J1 ([47] ++ r4.1) r7.2.L r7.2.at_)) else none
noncomputable def m_gatemake_Stream_Pick (s1 : S_gatemake_Stream) (l2 : (List Int)) : Option (Int × S_gatemake_Stream) :=
  (m_gatemake_Stream_Next s1 (l2.length : Int)).bind fun (r3 : (Int × S_gatemake_Stream)) => (at? l2 r3.1).bind fun (x5 : Int) => some (x5, r3.2)
noncomputable def m_internal_strconv_lower (c1 : Int) : Option (Int) :=
  some (or_ .u8 c1 32)
noncomputable def internal_strconv_underscoreOK_J7 (v47 : Int) (v85 : Int) : Option ((Int × Int) ⊕ (Bool)) :=
  some (.inl (v85, wr (v47 + 1)))
noncomputable def internal_strconv_underscoreOK_J8 (v14 : Bs) (v46 : Int) (v47 : Int) (v78 : Bool) : Option ((Int × Int) ⊕ (Bool)) :=
  if v78 then (internal_strconv_underscoreOK_J7 v47 48) else ((at? v14 v47).bind fun (x80 : UInt8) => if decide ((x80.toNat : Int) = 95) then (if decide (v46 ≠ 48) then (some (.inr false)) else (internal_strconv_underscoreOK_J7 v47 95)) else (if decide (v46 = 95) then (some (.inr false)) else (internal_strconv_underscoreOK_J7 v47 33)))
noncomputable def internal_strconv_underscoreOK_J5 (v86 : Int) : Option (Bool) :=
  some (decide (v86 ≠ 95))
noncomputable def internal_strconv_underscoreOK_L6 (v14 : Bs) (v45 : Bool) (v46 : Int) (v47 : Int) : Option ((Int × Int) ⊕ (Bool)) :=
  if decide (v47 < (v14.length : Int)) then ((at? v14 v47).bind fun (x50 : UInt8) => if decide (48 ≤ (x50.toNat : Int)) then (if decide ((x50.toNat : Int) ≤ 57) then (internal_strconv_underscoreOK_J8 v14 v46 v47 true) else (if v45 then ((m_internal_strconv_lower (x50.toNat : Int)).bind fun (r58 : (Int)) => if decide (97 ≤ r58) then ((m_internal_strconv_lower (x50.toNat : Int)).bind fun (r62 : (Int)) => internal_strconv_underscoreOK_J8 v14 v46 v47 (decide (r62 ≤ 102))) else (internal_strconv_underscoreOK_J8 v14 v46 v47 false)) else (internal_strconv_underscoreOK_J8 v14 v46 v47 false))) else (if v45 then ((m_internal_strconv_lower (x50.toNat : Int)).bind fun (r70 : (Int)) => if decide (97 ≤ r70) then ((m_internal_strconv_lower (x50.toNat : Int)).bind fun (r74 : (Int)) => internal_strconv_underscoreOK_J8 v14 v46 v47 (decide (r74 ≤ 102))) else (internal_strconv_underscoreOK_J8 v14 v46 v47 false)) else (internal_strconv_underscoreOK_J8 v14 v46 v47 false))) else (Option.map .inr (internal_strconv_underscoreOK_J5 v46))
noncomputable def internal_strconv_underscoreOK_J3 (v14 : Bs) (v43 : Int) (v44 : Int) (v45 : Bool) : Option (Bool) :=
  iter (fun (s : Int × Int) => internal_strconv_underscoreOK_L6 v14 v45 s.1 s.2) (v43, v44)
noncomputable def internal_strconv_underscoreOK_J4 (v14 : Bs) (v37 : Bool) : Option (Bool) :=
  if v37 then ((v14[1]?).bind fun (x39 : UInt8) => (m_internal_strconv_lower (x39.toNat : Int)).bind fun (r41 : (Int)) => internal_strconv_underscoreOK_J3 v14 48 2 (decide (r41 = 120))) else (internal_strconv_underscoreOK_J3 v14 94 0 false)
noncomputable def internal_strconv_underscoreOK_J1 (v14 : Bs) : Option (Bool) :=
  if decide (2 ≤ (v14.length : Int)) then ((v14[0]?).bind fun (x17 : UInt8) => if decide ((x17.toNat : Int) = 48) then ((v14[1]?).bind fun (x21 : UInt8) => (m_internal_strconv_lower (x21.toNat : Int)).bind fun (r23 : (Int)) => if decide (r23 = 98) then (internal_strconv_underscoreOK_J4 v14 true) else ((m_internal_strconv_lower (x21.toNat : Int)).bind fun (r27 : (Int)) => if decide (r27 = 111) then (internal_strconv_underscoreOK_J4 v14 true) else ((m_internal_strconv_lower (x21.toNat : Int)).bind fun (r31 : (Int)) => internal_strconv_underscoreOK_J4 v14 (decide (r31 = 120))))) else (internal_strconv_underscoreOK_J4 v14 false)) else (internal_strconv_underscoreOK_J4 v14 false)
noncomputable def internal_strconv_underscoreOK_J2 (v1 : Bs) (v10 : Bool) : Option (Bool) :=
  if v10 then ((sub? v1 1 (v1.length : Int)).bind fun (l12 : Bs) => internal_strconv_underscoreOK_J1 l12) else (internal_strconv_underscoreOK_J1 v1)
noncomputable def m_internal_strconv_underscoreOK (v1 : Bs) : Option (Bool) :=
  if decide (1 ≤ (v1.length : Int)) then ((v1[0]?).bind fun (x4 : UInt8) => if decide ((x4.toNat : Int) = 45) then (internal_strconv_underscoreOK_J2 v1 true) else (internal_strconv_underscoreOK_J2 v1 (decide ((x4.toNat : Int) = 43)))) else (internal_strconv_underscoreOK_J2 v1 false)
noncomputable def internal_strconv_ParseUint_J9 (v87 : Bool) (v88 : Int) : Option ((Bool × Int) ⊕ (Int × Int)) :=
  some (.inl (v87, v88))
noncomputable def internal_strconv_ParseUint_J10 (v46 : Int) (v49 : Int) (v53 : Int) (v55 : Bool) (v56 : Int) (v83 : Int) : Option ((Bool × Int) ⊕ (Int × Int)) :=
  if decide ((IntKind.wrap .u8 v46) ≤ v83) then (some (.inr (0, 2))) else (if decide (v53 ≤ v56) then (some (.inr (IntKind.wrap .u64 ((shl_ .u64 1 (IntKind.wrap .u64 v49)) - 1), 1))) else (if ((decide ((IntKind.wrap .u64 ((IntKind.wrap .u64 (v56 * (IntKind.wrap .u64 v46))) + (IntKind.wrap .u64 v83))) < (IntKind.wrap .u64 (v56 * (IntKind.wrap .u64 v46))))) || (decide ((IntKind.wrap .u64 ((shl_ .u64 1 (IntKind.wrap .u64 v49)) - 1)) < (IntKind.wrap .u64 ((IntKind.wrap .u64 (v56 * (IntKind.wrap .u64 v46))) + (IntKind.wrap .u64 v83)))))) then (some (.inr (IntKind.wrap .u64 ((shl_ .u64 1 (IntKind.wrap .u64 v49)) - 1), 1))) else (internal_strconv_ParseUint_J9 v55 (IntKind.wrap .u64 ((IntKind.wrap .u64 (v56 * (IntKind.wrap .u64 v46))) + (IntKind.wrap .u64 v83))))))
noncomputable def internal_strconv_ParseUint_J11 (v46 : Int) (v49 : Int) (v53 : Int) (v55 : Bool) (v56 : Int) (x60 : Int) (v79 : Bool) : Option ((Bool × Int) ⊕ (Int × Int)) :=
  if v79 then ((m_internal_strconv_lower x60).bind fun (r81 : (Int)) => internal_strconv_ParseUint_J10 v46 v49 v53 v55 v56 (IntKind.wrap .u8 ((IntKind.wrap .u8 (r81 - 97)) + 10))) else (some (.inr (0, 2)))
noncomputable def internal_strconv_ParseUint_L7 (v2 : Int) (v46 : Int) (v49 : Int) (v53 : Int) (k57 : Nat) (x60 : Int) (v55 : Bool) (v56 : Int) : Option ((Bool × Int) ⊕ (Int × Int)) :=
  if ((decide (x60 = 95)) && (decide (v2 = 0))) then (internal_strconv_ParseUint_J9 true v56) else (if ((decide (48 ≤ x60)) && (decide (x60 ≤ 57))) then (internal_strconv_ParseUint_J10 v46 v49 v53 v55 v56 (IntKind.wrap .u8 (x60 - 48))) else ((m_internal_strconv_lower x60).bind fun (r72 : (Int)) => if decide (97 ≤ r72) then ((m_internal_strconv_lower x60).bind fun (r76 : (Int)) => internal_strconv_ParseUint_J11 v46 v49 v53 v55 v56 x60 (decide (r76 ≤ 122))) else (internal_strconv_ParseUint_J11 v46 v49 v53 v55 v56 x60 false)))
noncomputable def internal_strconv_ParseUint_J8 (v56 : Int) (v66 : Bool) : Option (Int × Int) :=
  if v66 then (some (0, 2)) else (some (v56, 0))
noncomputable def internal_strconv_ParseUint_E7 (v1 : Bs) (v55 : Bool) (v56 : Int) : Option (Int × Int) :=
  if v55 then ((m_internal_strconv_underscoreOK v1).bind fun (r63 : (Bool)) => internal_strconv_ParseUint_J8 v56 (!r63)) else (internal_strconv_ParseUint_J8 v56 false)
noncomputable def internal_strconv_ParseUint_J6 (v1 : Bs) (v2 : Int) (v45 : Bs) (v46 : Int) (v49 : Int) (v53 : Int) : Option (Int × Int) :=
  if (0 : Int) ≤ (IntKind.wrap .u64 v49) then (if (numsB v45).length ≤ 1000000000 then forL (fun (k : Nat) (x : Int) (s : Bool × Int) => internal_strconv_ParseUint_L7 v2 v46 v49 v53 k x s.1 s.2) (fun (s : Bool × Int) => internal_strconv_ParseUint_E7 v1 s.1 s.2) 0 (numsB v45) (false, 0) else none) else none
noncomputable def internal_strconv_ParseUint_J5 (v1 : Bs) (v2 : Int) (v45 : Bs) (v46 : Int) (v49 : Int) : Option (Int × Int) :=
  if decide (v46 = 10) then (internal_strconv_ParseUint_J6 v1 v2 v45 v46 v49 1844674407370955162) else (if decide (v46 = 16) then (internal_strconv_ParseUint_J6 v1 v2 v45 v46 v49 1152921504606846976) else (if (IntKind.wrap .u64 v46) ≠ 0 then (internal_strconv_ParseUint_J6 v1 v2 v45 v46 v49 (IntKind.wrap .u64 ((IntKind.wrap .u64 (Int.tdiv 18446744073709551615 (IntKind.wrap .u64 v46))) + 1))) else none))
noncomputable def internal_strconv_ParseUint_J1 (v1 : Bs) (v2 : Int) (v3 : Int) (v45 : Bs) (v46 : Int) : Option (Int × Int) :=
  if decide (v3 = 0) then (internal_strconv_ParseUint_J5 v1 v2 v45 v46 64) else (if ((decide (v3 < 0)) || (decide (64 < v3))) then (some (0, 4)) else (internal_strconv_ParseUint_J5 v1 v2 v45 v46 v3))
noncomputable def internal_strconv_ParseUint_J4 (v1 : Bs) (v2 : Int) (v3 : Int) (v39 : Bool) : Option (Int × Int) :=
  if v39 then ((sub? v1 2 (v1.length : Int)).bind fun (l41 : Bs) => internal_strconv_ParseUint_J1 v1 v2 v3 l41 16) else ((sub? v1 1 (v1.length : Int)).bind fun (l43 : Bs) => internal_strconv_ParseUint_J1 v1 v2 v3 l43 8)
noncomputable def internal_strconv_ParseUint_J3 (v1 : Bs) (v2 : Int) (v3 : Int) (v28 : Bool) : Option (Int × Int) :=
  if v28 then ((sub? v1 2 (v1.length : Int)).bind fun (l30 : Bs) => internal_strconv_ParseUint_J1 v1 v2 v3 l30 8) else (if decide (3 ≤ (v1.length : Int)) then ((v1[1]?).bind fun (x34 : UInt8) => (m_internal_strconv_lower (x34.toNat : Int)).bind fun (r36 : (Int)) => internal_strconv_ParseUint_J4 v1 v2 v3 (decide (r36 = 120))) else (internal_strconv_ParseUint_J4 v1 v2 v3 false))
noncomputable def internal_strconv_ParseUint_J2 (v1 : Bs) (v2 : Int) (v3 : Int) (v17 : Bool) : Option (Int × Int) :=
  if v17 then ((sub? v1 2 (v1.length : Int)).bind fun (l19 : Bs) => internal_strconv_ParseUint_J1 v1 v2 v3 l19 2) else (if decide (3 ≤ (v1.length : Int)) then ((v1[1]?).bind fun (x23 : UInt8) => (m_internal_strconv_lower (x23.toNat : Int)).bind fun (r25 : (Int)) => internal_strconv_ParseUint_J3 v1 v2 v3 (decide (r25 = 111))) else (internal_strconv_ParseUint_J3 v1 v2 v3 false))
noncomputable def m_internal_strconv_ParseUint (v1 : Bs) (v2 : Int) (v3 : Int) : Option (Int × Int) :=
  if decide (v1 = []) then (some (0, 2)) else (if ((decide (2 ≤ v2)) && (decide (v2 ≤ 36))) then (internal_strconv_ParseUint_J1 v1 v2 v3 v1 v2) else (if decide (v2 = 0) then ((v1[0]?).bind fun (x7 : UInt8) => if decide ((x7.toNat : Int) = 48) then (if decide (3 ≤ (v1.length : Int)) then ((v1[1]?).bind fun (x12 : UInt8) => (m_internal_strconv_lower (x12.toNat : Int)).bind fun (r14 : (Int)) => internal_strconv_ParseUint_J2 v1 v2 v3 (decide (r14 = 98))) else (internal_strconv_ParseUint_J2 v1 v2 v3 false)) else (internal_strconv_ParseUint_J1 v1 v2 v3 v1 10)) else (some (0, 3))))
noncomputable def m_internal_strconv_ParseInt (v1 : Bs) (v2 : Int) (v3 : Int) : Option (Int × Int) :=
  if decide (v1 = []) then (some (0, 2)) else none
noncomputable def internal_strconv_Atoi_L3 (k15 : Nat) (x18 : Int) (v14 : Int) : Option (Int ⊕ (Int × Int)) :=
  if decide (9 < (IntKind.wrap .u8 (x18 - 48))) then (some (.inr (0, 2))) else (some (.inl (wr ((wr (v14 * 10)) + (IntKind.wrap .i64 (IntKind.wrap .u8 (x18 - 48)))))))
noncomputable def internal_strconv_Atoi_J4 (v23 : Int) : Option (Int × Int) :=
  some (v23, 0)
noncomputable def internal_strconv_Atoi_E3 (v1 : Bs) (v14 : Int) : Option (Int × Int) :=
  (v1[0]?).bind fun (x19 : UInt8) => if decide ((x19.toNat : Int) = 45) then (if -9223372036854775807 ≤ v14 ∧ v14 ≤ 9223372036854775807 then (internal_strconv_Atoi_J4 (-v14)) else none) else (internal_strconv_Atoi_J4 v14)
noncomputable def internal_strconv_Atoi_J1 (v1 : Bs) (v13 : Bs) : Option (Int × Int) :=
  if (numsB v13).length ≤ 1000000000 then forL (fun (k : Nat) (x : Int) (s : Int) => internal_strconv_Atoi_L3 k x s) (fun (s : Int) => internal_strconv_Atoi_E3 v1 s) 0 (numsB v13) 0 else none
noncomputable def internal_strconv_Atoi_J2 (v1 : Bs) (v8 : Bool) : Option (Int × Int) :=
  if v8 then ((sub? v1 1 (v1.length : Int)).bind fun (l10 : Bs) => if decide ((l10.length : Int) < 1) then (some (0, 2)) else (internal_strconv_Atoi_J1 v1 l10)) else (internal_strconv_Atoi_J1 v1 v1)
noncomputable def m_internal_strconv_Atoi (v1 : Bs) : Option (Int × Int) :=
  if ((false && ((decide (0 < (v1.length : Int))) && (decide ((v1.length : Int) < 10)))) || (true && ((decide (0 < (v1.length : Int))) && (decide ((v1.length : Int) < 19))))) then ((v1[0]?).bind fun (x3 : UInt8) => if decide ((x3.toNat : Int) = 45) then (internal_strconv_Atoi_J2 v1 true) else (internal_strconv_Atoi_J2 v1 (decide ((x3.toNat : Int) = 43)))) else ((m_internal_strconv_ParseInt v1 10 0).bind fun (r27 : (Int × Int)) => some (r27.1, r27.2))
noncomputable def m_strconv_Atoi (s1 : Bs) : Option (Int × Int) :=
  (m_internal_strconv_Atoi s1).bind fun (r2 : (Int × Int)) => if decide (r2.2 ≠ 0) then ((m_strconv_toError [65, 116, 111, 105] s1 0 0 r2.2).bind fun (r5 : (Int)) => some (r2.1, r5)) else (some (r2.1, 0))
noncomputable def kit_Number_J3 (v29 : Bool) : Option (Unit ⊕ (Int × Bool)) :=
  if v29 then (some (.inr (0, false))) else (some (.inl ()))
noncomputable def kit_Number_L2 (i18 : Nat) (x21 : UInt8) : Option (Unit ⊕ (Int × Bool)) :=
  if decide ((x21.toNat : Int) < 48) then (kit_Number_J3 true) else (kit_Number_J3 (decide (57 < (x21.toNat : Int))))
noncomputable def kit_Number_E2 (s1 : Bs) : Option (Int × Bool) :=
  (m_strconv_Atoi s1).bind fun (r22 : (Int × Int)) => some (r22.1, decide (r22.2 = 0))
noncomputable def kit_Number_J1 (s1 : Bs) (r3 : (Bs)) (v16 : Bool) : Option (Int × Bool) :=
  if v16 then (some (0, false)) else (if r3.length ≤ 1000000000 then forL (fun (k : Nat) (x : UInt8) (s : Unit) => kit_Number_L2 k x) (fun (s : Unit) => kit_Number_E2 s1) 0 r3 () else none)
noncomputable def m_kit_Number (s1 : Bs) (most2 : Int) : Option (Int × Bool) :=
  (m_strings_TrimPrefix s1 [45]).bind fun (r3 : (Bs)) => if decide (r3 = []) then (kit_Number_J1 s1 r3 true) else (if decide (most2 < (r3.length : Int)) then (kit_Number_J1 s1 r3 true) else ((r3[0]?).bind fun (x9 : UInt8) => if decide ((x9.toNat : Int) = 48) then (kit_Number_J1 s1 r3 (decide (s1 ≠ [48]))) else (kit_Number_J1 s1 r3 false)))
noncomputable def m_kit_Small (s1 : Bs) : Option (Int × Bool) :=
  (m_kit_Number s1 9).bind fun (r2 : (Int × Bool)) => some (r2.1, r2.2)
noncomputable def m_kit_Outside (n1 : Int) (low2 : Int) (high3 : Int) : Option (Bool) :=
  some ((decide (n1 < low2)) || (decide (high3 < n1)))
noncomputable def m_message_isLetter (c1 : Int) : Option (Bool) :=
  some (((decide (97 ≤ c1)) && (decide (c1 ≤ 122))) || ((decide (65 ≤ c1)) && (decide (c1 ≤ 90))))
noncomputable def m_message_isDigit (c1 : Int) : Option (Bool) :=
  some ((decide (48 ≤ c1)) && (decide (c1 ≤ 57)))
noncomputable def message_isLabel_J2 (v19 : Bool) : Option (Bool) :=
  some v19
noncomputable def message_isLabel_J3 (v32 : Bool) : Option (Unit ⊕ (Bool)) :=
  if v32 then (some (.inr false)) else (some (.inl ()))
noncomputable def message_isLabel_L1 (k2 : Nat) (x5 : UInt8) : Option (Unit ⊕ (Bool)) :=
  (m_message_isLetter (x5.toNat : Int)).bind fun (r22 : (Bool)) => if !r22 then ((m_message_isDigit (x5.toNat : Int)).bind fun (r26 : (Bool)) => if !r26 then (message_isLabel_J3 (decide ((x5.toNat : Int) ≠ 45))) else (message_isLabel_J3 false)) else (message_isLabel_J3 false)
noncomputable def message_isLabel_E1 (s1 : Bs) : Option (Bool) :=
  if decide (s1 ≠ []) then (if decide ((s1.length : Int) ≤ 63) then ((s1[0]?).bind fun (x10 : UInt8) => if decide ((x10.toNat : Int) ≠ 45) then ((at? s1 (wr ((s1.length : Int) - 1))).bind fun (x14 : UInt8) => message_isLabel_J2 (decide ((x14.toNat : Int) ≠ 45))) else (message_isLabel_J2 false)) else (message_isLabel_J2 false)) else (message_isLabel_J2 false)
noncomputable def m_message_isLabel (s1 : Bs) : Option (Bool) :=
  if s1.length ≤ 1000000000 then forL (fun (k : Nat) (x : UInt8) (s : Unit) => message_isLabel_L1 k x) (fun (s : Unit) => message_isLabel_E1 s1) 0 s1 () else none
noncomputable def message_isHost_J2 (v23 : Bool) : Option (Bool) :=
  some v23
noncomputable def message_isHost_L1 (k6 : Nat) (x9 : Bs) : Option (Unit ⊕ (Bool)) :=
  (m_message_isLabel x9).bind fun (r26 : (Bool)) => if !r26 then (some (.inr false)) else (some (.inl ()))
noncomputable def message_isHost_E1 (s1 : Bs) (r2 : (Bs × Bs × Bool)) : Option (Bool) :=
  (m_kit_Small r2.2.1).bind fun (r10 : (Int × Bool)) => if decide ((s1.length : Int) ≤ 255) then (if !r2.2.2 then (message_isHost_J2 true) else (if r10.2 then ((m_kit_Outside r10.1 1 65535).bind fun (r18 : (Bool)) => message_isHost_J2 (!r18)) else (message_isHost_J2 false))) else (message_isHost_J2 false)
noncomputable def m_message_isHost (s1 : Bs) : Option (Bool) :=
  (m_strings_Cut s1 [58]).bind fun (r2 : (Bs × Bs × Bool)) => (m_strings_Split r2.1 [46]).bind fun (r4 : ((List Bs))) => if r4.length ≤ 1000000000 then forL (fun (k : Nat) (x : Bs) (s : Unit) => message_isHost_L1 k x) (fun (s : Unit) => message_isHost_E1 s1 r2) 0 r4 () else none
noncomputable def m_message_NormalHost (s1 : Bs) : Option (Bs × Int) :=
  (m_message_isHost s1).bind fun (r2 : (Bool)) => if !r2 then (some ([], 3)) else ((m_strings_ToLower s1).bind fun (r5 : (Bs)) => (m_strings_Cut r5 [58]).bind fun (r7 : (Bs × Bs × Bool)) => if (((decide (r7.2.1 = [])) || (decide (r7.2.1 = [56, 48]))) || (decide (r7.2.1 = [52, 52, 51]))) then (some (r7.1, 0)) else (if r7.1.length + [58].length ≤ 1000000000 then (if (r7.1 ++ [58]).length + r7.2.1.length ≤ 1000000000 then (some (((r7.1 ++ [58]) ++ r7.2.1), 0)) else none) else none))
noncomputable def gateref2_only_L1 (some2 : Bs) (k3 : Nat) (x6 : UInt8) : Option (Unit ⊕ (Bool)) :=
  (m_strings_IndexByte some2 (x6.toNat : Int)).bind fun (r9 : (Int)) => if decide (r9 < 0) then (some (.inr false)) else (some (.inl ()))
noncomputable def gateref2_only_E1 : Option (Bool) :=
  some true
noncomputable def m_gateref2_only (s1 : Bs) (some2 : Bs) : Option (Bool) :=
  if s1.length ≤ 1000000000 then forL (fun (k : Nat) (x : UInt8) (s : Unit) => gateref2_only_L1 some2 k x) (fun (s : Unit) => gateref2_only_E1) 0 s1 () else none
noncomputable def gateref2_Number_J2 (r15 : (Int × Int)) (v22 : Bool) : Option (Int × Bool) :=
  some (r15.1, v22)
noncomputable def gateref2_Number_J1 (s1 : Bs) (v13 : Bool) : Option (Int × Bool) :=
  if v13 then (some (0, false)) else ((m_strconv_Atoi s1).bind fun (r15 : (Int × Int)) => if decide (r15.2 = 0) then ((m_strconv_Itoa r15.1).bind fun (r19 : (Bs)) => gateref2_Number_J2 r15 (decide (r19 = s1))) else (gateref2_Number_J2 r15 false))
noncomputable def m_gateref2_Number (s1 : Bs) (most2 : Int) : Option (Int × Bool) :=
  (m_strings_TrimPrefix s1 [45]).bind fun (r3 : (Bs)) => if decide (r3 = []) then (gateref2_Number_J1 s1 true) else (if decide (most2 < (r3.length : Int)) then (gateref2_Number_J1 s1 true) else ((m_gateref2_only r3 [48, 49, 50, 51, 52, 53, 54, 55, 56, 57]).bind fun (r9 : (Bool)) => gateref2_Number_J1 s1 (!r9)))
noncomputable def m_gateref2_in (n1 : Int) (low2 : Int) (high3 : Int) : Option (Bool) :=
  some ((decide (low2 ≤ n1)) && (decide (n1 ≤ high3)))
noncomputable def strings_trimRightByte_J1 (s14 : Bs) : Option (Bs) :=
  some s14
noncomputable def strings_trimRightByte_J3 (s3 : Bs) (v10 : Bool) : Option (Bs ⊕ (Bs)) :=
  if v10 then ((sub? s3 0 (wr ((s3.length : Int) - 1))).bind fun (l12 : Bs) => some (.inl l12)) else (Option.map .inr (strings_trimRightByte_J1 s3))
noncomputable def strings_trimRightByte_L2 (c2 : Int) (s3 : Bs) : Option (Bs ⊕ (Bs)) :=
  if decide (0 < (s3.length : Int)) then ((at? s3 (wr ((s3.length : Int) - 1))).bind fun (x7 : UInt8) => strings_trimRightByte_J3 s3 (decide ((x7.toNat : Int) = c2))) else (strings_trimRightByte_J3 s3 false)
noncomputable def m_strings_trimRightByte (s1 : Bs) (c2 : Int) : Option (Bs) :=
  iter (fun (s : Bs) => strings_trimRightByte_L2 c2 s) s1
noncomputable def strings_trimLeftByte_J1 (s14 : Bs) : Option (Bs) :=
  some s14
noncomputable def strings_trimLeftByte_J3 (s3 : Bs) (v10 : Bool) : Option (Bs ⊕ (Bs)) :=
  if v10 then ((sub? s3 1 (s3.length : Int)).bind fun (l12 : Bs) => some (.inl l12)) else (Option.map .inr (strings_trimLeftByte_J1 s3))
noncomputable def strings_trimLeftByte_L2 (c2 : Int) (s3 : Bs) : Option (Bs ⊕ (Bs)) :=
  if decide (0 < (s3.length : Int)) then ((s3[0]?).bind fun (x7 : UInt8) => strings_trimLeftByte_J3 s3 (decide ((x7.toNat : Int) = c2))) else (strings_trimLeftByte_J3 s3 false)
noncomputable def m_strings_trimLeftByte (s1 : Bs) (c2 : Int) : Option (Bs) :=
  iter (fun (s : Bs) => strings_trimLeftByte_L2 c2 s) s1
noncomputable def strings_Trim_J1 (s1 : Bs) (cutset2 : Bs) (v9 : Bool) : Option (Bs) :=
  if v9 then ((cutset2[0]?).bind fun (x11 : UInt8) => (m_strings_trimRightByte s1 (x11.toNat : Int)).bind fun (r13 : (Bs)) => (m_strings_trimLeftByte r13 (x11.toNat : Int)).bind fun (r15 : (Bs)) => some r15) else none
noncomputable def m_strings_Trim (s1 : Bs) (cutset2 : Bs) : Option (Bs) :=
  if ((decide (s1 = [])) || (decide (cutset2 = []))) then some s1 else (if decide ((cutset2.length : Int) = 1) then ((cutset2[0]?).bind fun (x6 : UInt8) => strings_Trim_J1 s1 cutset2 (decide ((x6.toNat : Int) < 128))) else (strings_Trim_J1 s1 cutset2 false))
noncomputable def gateref2_HostOf_J3 (v30 : Bs) : Option (Bs × Int) :=
  some (v30, 0)
noncomputable def gateref2_HostOf_J4 (v45 : Bool) : Option (Unit ⊕ (Bs × Int)) :=
  if v45 then (some (.inr ([], 3))) else (some (.inl ()))
noncomputable def gateref2_HostOf_L2 (k21 : Nat) (x24 : Bs) : Option (Unit ⊕ (Bs × Int)) :=
  (m_gateref2_in (x24.length : Int) 1 63).bind fun (r33 : (Bool)) => if !r33 then (gateref2_HostOf_J4 true) else ((m_gateref2_only x24 [97, 98, 99, 100, 101, 102, 103, 104, 105, 106, 107, 108, 109, 110, 111, 112, 113, 114, 115, 116, 117, 118, 119, 120, 121, 122, 65, 66, 67, 68, 69, 70, 71, 72, 73, 74, 75, 76, 77, 78, 79, 80, 81, 82, 83, 84, 85, 86, 87, 88, 89, 90, 48, 49, 50, 51, 52, 53, 54, 55, 56, 57, 45]).bind fun (r37 : (Bool)) => if !r37 then (gateref2_HostOf_J4 true) else ((m_strings_Trim x24 [45]).bind fun (r41 : (Bs)) => gateref2_HostOf_J4 (decide (r41 ≠ x24))))
noncomputable def gateref2_HostOf_E2 (r2 : (Bs × Bs × Bool)) (r4 : (Int × Bool)) : Option (Bs × Int) :=
  (m_strings_ToLower r2.1).bind fun (r25 : (Bs)) => if ((r2.2.2 && (decide (r4.1 ≠ 80))) && (decide (r4.1 ≠ 443))) then (if [58].length + r2.2.1.length ≤ 1000000000 then (if r25.length + ([58] ++ r2.2.1).length ≤ 1000000000 then (gateref2_HostOf_J3 (r25 ++ ([58] ++ r2.2.1))) else none) else none) else (gateref2_HostOf_J3 r25)
noncomputable def gateref2_HostOf_J1 (r2 : (Bs × Bs × Bool)) (r4 : (Int × Bool)) (v17 : Bool) : Option (Bs × Int) :=
  if v17 then (some ([], 3)) else ((m_strings_Split r2.1 [46]).bind fun (r19 : ((List Bs))) => if r19.length ≤ 1000000000 then forL (fun (k : Nat) (x : Bs) (s : Unit) => gateref2_HostOf_L2 k x) (fun (s : Unit) => gateref2_HostOf_E2 r2 r4) 0 r19 () else none)
noncomputable def m_gateref2_HostOf (v1 : Bs) : Option (Bs × Int) :=
  (m_strings_Cut v1 [58]).bind fun (r2 : (Bs × Bs × Bool)) => (m_gateref2_Number r2.2.1 5).bind fun (r4 : (Int × Bool)) => if decide (255 < (v1.length : Int)) then (gateref2_HostOf_J1 r2 r4 true) else (if r2.2.2 then (if !r4.2 then (gateref2_HostOf_J1 r2 r4 true) else ((m_gateref2_in r4.1 1 65535).bind fun (r12 : (Bool)) => gateref2_HostOf_J1 r2 r4 (!r12))) else (gateref2_HostOf_J1 r2 r4 false))
noncomputable def message_isRange_J2 (v13 : Bool) : Option (Unit ⊕ (Bool)) :=
  if v13 then (some (.inr false)) else (some (.inl ()))
noncomputable def message_isRange_L1 (low2 : Int) (high3 : Int) (k4 : Nat) (x7 : UInt8) : Option (Unit ⊕ (Bool)) :=
  if decide ((x7.toNat : Int) < low2) then (message_isRange_J2 true) else (message_isRange_J2 (decide (high3 < (x7.toNat : Int))))
noncomputable def message_isRange_E1 : Option (Bool) :=
  some true
noncomputable def m_message_isRange (s1 : Bs) (low2 : Int) (high3 : Int) : Option (Bool) :=
  if s1.length ≤ 1000000000 then forL (fun (k : Nat) (x : UInt8) (s : Unit) => message_isRange_L1 low2 high3 k x) (fun (s : Unit) => message_isRange_E1) 0 s1 () else none
noncomputable def message_PathFault_J1 (v17 : Bool) : Option (Int) :=
  if v17 then some 3 else some 0
noncomputable def m_message_PathFault (s1 : Bs) : Option (Int) :=
  if decide (1000 < (s1.length : Int)) then (message_PathFault_J1 true) else ((m_strings_HasPrefix s1 [47]).bind fun (r4 : (Bool)) => if !r4 then (message_PathFault_J1 true) else ((m_message_isRange s1 33 126).bind fun (r8 : (Bool)) => if !r8 then (message_PathFault_J1 true) else ((m_strings_ContainsAny s1 [63, 35]).bind fun (r12 : (Bool)) => message_PathFault_J1 r12)))
noncomputable def m_strings_Builder_WriteByte (l1 : (List Int)) (c2 : Int) : Option (Int × (List Int)) :=
  if l1.length + 1 ≤ 1000000000 then (some (0, (l1 ++ [c2]))) else none
noncomputable def m_message_isHex (c1 : Int) : Option (Bool) :=
  (m_message_isDigit c1).bind fun (r2 : (Bool)) => some ((r2 || ((decide (97 ≤ c1)) && (decide (c1 ≤ 102)))) || ((decide (65 ≤ c1)) && (decide (c1 ≤ 70))))
noncomputable def message_isUnit_J1 (v17 : Bool) : Option (Bool) :=
  some v17
noncomputable def m_message_isUnit (s1 : Bs) (v2 : Int) : Option (Bool) :=
  if decide ((wr (v2 + 2)) < (s1.length : Int)) then ((at? s1 (wr (v2 + 1))).bind fun (x5 : UInt8) => (m_message_isHex (x5.toNat : Int)).bind fun (r7 : (Bool)) => if r7 then ((at? s1 (wr (v2 + 2))).bind fun (x11 : UInt8) => (m_message_isHex (x11.toNat : Int)).bind fun (r13 : (Bool)) => message_isUnit_J1 r13) else (message_isUnit_J1 false)) else (message_isUnit_J1 false)
noncomputable def m_strconv_ParseUint (s1 : Bs) (base2 : Int) (bitSize3 : Int) : Option (Int × Int) :=
  (m_internal_strconv_ParseUint s1 base2 bitSize3).bind fun (r4 : (Int × Int)) => if decide (r4.2 ≠ 0) then ((m_strconv_toError [80, 97, 114, 115, 101, 85, 105, 110, 116] s1 base2 bitSize3 r4.2).bind fun (r7 : (Int)) => some (r4.1, r7)) else (some (r4.1, 0))
noncomputable def m_message_unit (s1 : Bs) (v2 : Int) : Option (Int) :=
  (sub? s1 (wr (v2 + 1)) (wr (v2 + 3))).bind fun (l3 : Bs) => (m_strconv_ParseUint l3 16 8).bind fun (r5 : (Int × Int)) => if decide (r5.2 ≠ 0) then some 0 else (some (IntKind.wrap .u8 r5.1))
noncomputable def message_isFree_J1 (v14 : Bool) : Option (Bool) :=
  some v14
noncomputable def m_message_isFree (c1 : Int) : Option (Bool) :=
  (m_message_isLetter c1).bind fun (r2 : (Bool)) => if r2 then (message_isFree_J1 true) else ((m_message_isDigit c1).bind fun (r6 : (Bool)) => if r6 then (message_isFree_J1 true) else ((m_strings_IndexByte [45, 46, 95, 126] c1).bind fun (r10 : (Int)) => message_isFree_J1 (decide (0 ≤ r10))))
noncomputable def m_message_percent (c1 : Int) : Option (Bs) :=
  (at? [48, 49, 50, 51, 52, 53, 54, 55, 56, 57, 65, 66, 67, 68, 69, 70] (shr_ .u8 c1 4)).bind fun (x2 : UInt8) => (at? [48, 49, 50, 51, 52, 53, 54, 55, 56, 57, 65, 66, 67, 68, 69, 70] (and_ .u8 c1 15)).bind fun (x4 : UInt8) => some (strN [37, (x2.toNat : Int), (x4.toNat : Int)])
noncomputable def m_strings_Builder_WriteString (l1 : (List Int)) (s2 : Bs) : Option (Int × Int × (List Int)) :=
  if l1.length + s2.length ≤ 1000000000 then (some ((s2.length : Int), 0, (l1 ++ numsB s2))) else none
noncomputable def message_normalUnits_J3 (i26 : Int) (l27 : (List Int)) : Option ((Int × (List Int)) ⊕ (Bs × Bool)) :=
  some (.inl (wr (i26 + 1), l27))
noncomputable def message_normalUnits_J4 (i2 : Int) (l25 : (List Int)) : Option ((Int × (List Int)) ⊕ (Bs × Bool)) :=
  message_normalUnits_J3 (wr (i2 + 2)) l25
noncomputable def message_normalUnits_J1 (l28 : (List Int)) : Option (Bs × Bool) :=
  if byR l28 = true then (some ((strN l28), true)) else none
noncomputable def message_normalUnits_L2 (s1 : Bs) (i2 : Int) (l3 : (List Int)) : Option ((Int × (List Int)) ⊕ (Bs × Bool)) :=
  if decide (i2 < (s1.length : Int)) then ((at? s1 i2).bind fun (x6 : UInt8) => if decide ((x6.toNat : Int) ≠ 37) then ((m_strings_Builder_WriteByte l3 (x6.toNat : Int)).bind fun (r9 : (Int × (List Int))) => message_normalUnits_J3 i2 r9.2) else ((m_message_isUnit s1 i2).bind fun (r11 : (Bool)) => if !r11 then (some (.inr ([], false))) else ((m_message_unit s1 i2).bind fun (r14 : (Int)) => (m_message_isFree r14).bind fun (r16 : (Bool)) => if r16 then ((m_strings_Builder_WriteByte l3 r14).bind fun (r19 : (Int × (List Int))) => message_normalUnits_J4 i2 r19.2) else ((m_message_percent r14).bind fun (r21 : (Bs)) => (m_strings_Builder_WriteString l3 r21).bind fun (r23 : (Int × Int × (List Int))) => message_normalUnits_J4 i2 r23.2.2)))) else (Option.map .inr (message_normalUnits_J1 l3))
noncomputable def m_message_normalUnits (s1 : Bs) : Option (Bs × Bool) :=
  iter (fun (s : Int × (List Int)) => message_normalUnits_L2 s1 s.1 s.2) (0, ([] : List Int))
noncomputable def message_NormalPath_J2 (out29 : (List Bs)) : Option ((List Bs) ⊕ (Bs × Int)) :=
  some (.inl out29)
noncomputable def message_NormalPath_J3 (r10 : ((List Bs))) (k13 : Nat) (out26 : (List Bs)) : Option ((List Bs) ⊕ (Bs × Int)) :=
  if decide ((k13 : Int) = (wr ((r10.length : Int) - 1))) then (if out26.length + 1 ≤ 1000000000 then (message_NormalPath_J2 (out26 ++ ([[]]))) else none) else (message_NormalPath_J2 out26)
noncomputable def message_NormalPath_L1 (r10 : ((List Bs))) (k13 : Nat) (x16 : Bs) (l12 : (List Bs)) : Option ((List Bs) ⊕ (Bs × Int)) :=
  if decide (x16 = [46]) then (message_NormalPath_J3 r10 k13 l12) else (if decide (x16 = [46, 46]) then (if (0 : Int) ≤ (max (wr ((l12.length : Int) - 1)) 0) ∧ (max (wr ((l12.length : Int) - 1)) 0) ≤ (l12.length : Int) then (message_NormalPath_J3 r10 k13 (l12.take (max (wr ((l12.length : Int) - 1)) 0).toNat)) else none) else (if l12.length + 1 ≤ 1000000000 then (message_NormalPath_J2 (l12 ++ [x16])) else none))
noncomputable def message_NormalPath_E1 (l12 : (List Bs)) : Option (Bs × Int) :=
  (m_strings_Join l12 [47]).bind fun (r17 : (Bs)) => if [47].length + r17.length ≤ 1000000000 then (some (([47] ++ r17), 0)) else none
noncomputable def m_message_NormalPath (s1 : Bs) : Option (Bs × Int) :=
  (m_message_PathFault s1).bind fun (r2 : (Int)) => if decide (r2 ≠ 0) then (some ([], r2)) else ((m_message_normalUnits s1).bind fun (r5 : (Bs × Bool)) => if !r5.2 then (some ([], 9)) else ((sub? r5.1 1 (r5.1.length : Int)).bind fun (l8 : Bs) => (m_strings_Split l8 [47]).bind fun (r10 : ((List Bs))) => if r10.length ≤ 1000000000 then forL (fun (k : Nat) (x : Bs) (s : (List Bs)) => message_NormalPath_L1 r10 k x s) (fun (s : (List Bs)) => message_NormalPath_E1 s) 0 r10 [] else none))
noncomputable def gateref2_visible_J2 (v12 : Bool) : Option (Unit ⊕ (Bool)) :=
  if v12 then (some (.inr false)) else (some (.inl ()))
noncomputable def gateref2_visible_L1 (low2 : Int) (k3 : Nat) (x6 : UInt8) : Option (Unit ⊕ (Bool)) :=
  if decide ((x6.toNat : Int) < low2) then (gateref2_visible_J2 true) else (gateref2_visible_J2 (decide (126 < (x6.toNat : Int))))
noncomputable def gateref2_visible_E1 : Option (Bool) :=
  some true
noncomputable def m_gateref2_visible (s1 : Bs) (low2 : Int) : Option (Bool) :=
  if s1.length ≤ 1000000000 then forL (fun (k : Nat) (x : UInt8) (s : Unit) => gateref2_visible_L1 low2 k x) (fun (s : Unit) => gateref2_visible_E1) 0 s1 () else none
noncomputable def gateref2_pathForm_J1 (v19 : Bool) : Option (Bool) :=
  some v19
noncomputable def m_gateref2_pathForm (s1 : Bs) : Option (Bool) :=
  (m_gateref2_in (s1.length : Int) 1 1000).bind fun (r2 : (Bool)) => if r2 then ((s1[0]?).bind fun (x6 : UInt8) => if decide ((x6.toNat : Int) = 47) then ((m_gateref2_visible s1 33).bind fun (r10 : (Bool)) => if r10 then ((m_strings_ContainsAny s1 [63, 35]).bind fun (r14 : (Bool)) => gateref2_pathForm_J1 (!r14)) else (gateref2_pathForm_J1 false)) else (gateref2_pathForm_J1 false)) else (gateref2_pathForm_J1 false)
noncomputable def gateref2_units_J1 (out21 : (List S_gateref2_unit)) : Option ((List S_gateref2_unit) × Bool) :=
  some (out21, true)
noncomputable def gateref2_units_L2 (s2 : Bs) (l3 : (List S_gateref2_unit)) : Option ((Bs × (List S_gateref2_unit)) ⊕ ((List S_gateref2_unit) × Bool)) :=
  if decide (s2 ≠ []) then ((s2[0]?).bind fun (x6 : UInt8) => if decide ((x6.toNat : Int) ≠ 37) then (if l3.length + 1 ≤ 1000000000 then ((sub? s2 1 (s2.length : Int)).bind fun (l10 : Bs) => some (.inl (l10, (l3 ++ [(S_gateref2_unit.mk (x6.toNat : Int) true)])))) else none) else (if decide ((s2.length : Int) < 3) then (some (.inr ([], false))) else ((sub? s2 1 3).bind fun (l13 : Bs) => (m_strconv_ParseUint l13 16 8).bind fun (r15 : (Int × Int)) => if decide (r15.2 ≠ 0) then (some (.inr ([], false))) else (if l3.length + 1 ≤ 1000000000 then ((sub? s2 3 (s2.length : Int)).bind fun (l19 : Bs) => some (.inl (l19, (l3 ++ [(S_gateref2_unit.mk (IntKind.wrap .u8 r15.1) false)])))) else none)))) else (Option.map .inr (gateref2_units_J1 l3))
noncomputable def m_gateref2_units (s1 : Bs) : Option ((List S_gateref2_unit) × Bool) :=
  iter (fun (s : Bs × (List S_gateref2_unit)) => gateref2_units_L2 s.1 s.2) (s1, [])
noncomputable def m_gateref2_digits0 (n1 : Int) : Option (Bs) :=
  (sub? [48, 49, 50, 51, 52, 53, 54, 55, 56, 57, 65, 66, 67, 68, 69, 70] n1 (IntKind.wrap .u8 (n1 + 1))).bind fun (l2 : Bs) => some l2
noncomputable def m_gateref2_coded (c1 : Int) : Option (Bs) :=
  (m_gateref2_digits0 (shr_ .u8 c1 4)).bind fun (r2 : (Bs)) => if [37].length + r2.length ≤ 1000000000 then ((m_gateref2_digits0 (and_ .u8 c1 15)).bind fun (r5 : (Bs)) => if ([37] ++ r2).length + r5.length ≤ 1000000000 then (some (([37] ++ r2) ++ r5)) else none) else none
noncomputable def gateref2_PathOf_J3 (c17 : Int) (x22 : Bs) (l28 : (List Bs)) : Option ((Int × (List Bs)) ⊕ (Bs × Int)) :=
  if decide (x22 = [46, 46]) then (some (.inl (wr (c17 + 1), l28))) else (some (.inl (c17, l28)))
noncomputable def gateref2_PathOf_L2 (r15 : ((List Bs))) (k21 : Nat) (x22 : Bs) (c17 : Int) (l18 : (List Bs)) : Option ((Int × (List Bs)) ⊕ (Bs × Int)) :=
  if ((decide (x22 = [46])) || (decide (x22 = [46, 46]))) then (if decide ((k21 : Int) = (wr ((r15.length : Int) - 1))) then (if l18.length + 1 ≤ 1000000000 then (gateref2_PathOf_J3 c17 x22 (l18 ++ ([[]]))) else none) else (gateref2_PathOf_J3 c17 x22 l18)) else (if decide (0 < c17) then (some (.inl (wr (c17 - 1), l18))) else (if l18.length + 1 ≤ 1000000000 then (some (.inl (c17, (l18 ++ [x22])))) else none))
noncomputable def gateref2_PathOf_E2 (c17 : Int) (l18 : (List Bs)) : Option (Bs × Int) :=
  (m_slices_Reverse_string l18).bind fun (r32 : (List Bs)) => (m_strings_Join r32 [47]).bind fun (r34 : (Bs)) => if [47].length + r34.length ≤ 1000000000 then (some (([47] ++ r34), 0)) else none
noncomputable def gateref2_PathOf_J4 (v53 : Bs) : Option (Bs ⊕ (Bs × Int)) :=
  some (.inl v53)
noncomputable def gateref2_PathOf_J5 (v8 : Bs) (x12 : S_gateref2_unit) (v47 : Bool) : Option (Bs ⊕ (Bs × Int)) :=
  if v47 then (if v8.length + (strN [x12.c_]).length ≤ 1000000000 then (gateref2_PathOf_J4 (v8 ++ (strN [x12.c_]))) else none) else ((m_gateref2_coded x12.c_).bind fun (r50 : (Bs)) => if v8.length + r50.length ≤ 1000000000 then (gateref2_PathOf_J4 (v8 ++ r50)) else none)
noncomputable def gateref2_PathOf_L1 (k9 : Nat) (x12 : S_gateref2_unit) (v8 : Bs) : Option (Bs ⊕ (Bs × Int)) :=
  if x12.plain_ then (gateref2_PathOf_J5 v8 x12 true) else ((m_gateref2_only (encL (IntKind.wrap .i32 x12.c_)) [97, 98, 99, 100, 101, 102, 103, 104, 105, 106, 107, 108, 109, 110, 111, 112, 113, 114, 115, 116, 117, 118, 119, 120, 121, 122, 65, 66, 67, 68, 69, 70, 71, 72, 73, 74, 75, 76, 77, 78, 79, 80, 81, 82, 83, 84, 85, 86, 87, 88, 89, 90, 48, 49, 50, 51, 52, 53, 54, 55, 56, 57, 45, 46, 95, 126]).bind fun (r41 : (Bool)) => if r41 then (gateref2_PathOf_J5 v8 x12 (decide (x12.c_ < 128))) else (gateref2_PathOf_J5 v8 x12 false))
noncomputable def gateref2_PathOf_E1 (v8 : Bs) : Option (Bs × Int) :=
  (sub? v8 1 (v8.length : Int)).bind fun (l13 : Bs) => (m_strings_Split l13 [47]).bind fun (r15 : ((List Bs))) => if r15.length ≤ 1000000000 then back (fun (k : Nat) (x : Bs) (s : Int × (List Bs)) => gateref2_PathOf_L2 r15 k x s.1 s.2) (fun (s : Int × (List Bs)) => gateref2_PathOf_E2 s.1 s.2) r15 r15.length (0, ([] : List Bs)) else none
noncomputable def m_gateref2_PathOf (v1 : Bs) : Option (Bs × Int) :=
  (m_gateref2_pathForm v1).bind fun (r2 : (Bool)) => if !r2 then (some ([], 3)) else ((m_gateref2_units v1).bind fun (r5 : ((List S_gateref2_unit) × Bool)) => if !r5.2 then (some ([], 9)) else (if r5.1.length ≤ 1000000000 then forL (fun (k : Nat) (x : S_gateref2_unit) (s : Bs) => gateref2_PathOf_L1 k x s) (fun (s : Bs) => gateref2_PathOf_E1 s) 0 r5.1 [] else none))
noncomputable def message_decoded_J3 (i22 : Int) (l23 : (List Int)) : Option ((Int × (List Int)) ⊕ (Bs × Bool)) :=
  some (.inl (wr (i22 + 1), l23))
noncomputable def message_decoded_J1 (l24 : (List Int)) : Option (Bs × Bool) :=
  if byR l24 = true then (some ((strN l24), true)) else none
noncomputable def message_decoded_L2 (s1 : Bs) (plus2 : Bool) (i3 : Int) (l4 : (List Int)) : Option ((Int × (List Int)) ⊕ (Bs × Bool)) :=
  if decide (i3 < (s1.length : Int)) then ((at? s1 i3).bind fun (x7 : UInt8) => if ((decide ((x7.toNat : Int) = 43)) && plus2) then ((m_strings_Builder_WriteByte l4 32).bind fun (r10 : (Int × (List Int))) => message_decoded_J3 i3 r10.2) else (if decide ((x7.toNat : Int) ≠ 37) then ((m_strings_Builder_WriteByte l4 (x7.toNat : Int)).bind fun (r13 : (Int × (List Int))) => message_decoded_J3 i3 r13.2) else ((m_message_isUnit s1 i3).bind fun (r15 : (Bool)) => if !r15 then (some (.inr ([], false))) else ((m_message_unit s1 i3).bind fun (r18 : (Int)) => (m_strings_Builder_WriteByte l4 r18).bind fun (r20 : (Int × (List Int))) => message_decoded_J3 (wr (i3 + 2)) r20.2)))) else (Option.map .inr (message_decoded_J1 l4))
noncomputable def m_message_decoded (s1 : Bs) (plus2 : Bool) : Option (Bs × Bool) :=
  iter (fun (s : Int × (List Int)) => message_decoded_L2 s1 plus2 s.1 s.2) (0, ([] : List Int))
noncomputable def message_Segments_L1 (k11 : Nat) (l10 : (List Bs)) : Option ((List Bs) ⊕ ((List Bs) × Int)) :=
  (l10[k11]?).bind fun (x15 : Bs) => (m_message_decoded x15 false).bind fun (r17 : (Bs × Bool)) => some (.inl (l10.set k11 r17.1))
noncomputable def message_Segments_E1 (l10 : (List Bs)) : Option ((List Bs) × Int) :=
  some (l10, 0)
noncomputable def m_message_Segments (path1 : Bs) : Option ((List Bs) × Int) :=
  (m_message_NormalPath path1).bind fun (r2 : (Bs × Int)) => if decide (r2.2 ≠ 0) then (some ([], r2.2)) else ((sub? r2.1 1 (r2.1.length : Int)).bind fun (l5 : Bs) => (m_strings_Split l5 [47]).bind fun (r7 : ((List Bs))) => if decide (100 < (r7.length : Int)) then (some ([], 2)) else (if r7.length ≤ 1000000000 then rng (fun (k : Nat) (s : (List Bs)) => message_Segments_L1 k s) (fun (s : (List Bs)) => message_Segments_E1 s) r7.length 0 r7 else none))
noncomputable def gateref2_bytesOf_L1 (k5 : Nat) (x8 : S_gateref2_unit) (l4 : (List Int)) : Option ((List Int) ⊕ (Bs)) :=
  if l4.length + 1 ≤ 1000000000 then (some (.inl (l4 ++ [x8.c_]))) else none
noncomputable def gateref2_bytesOf_E1 (l4 : (List Int)) : Option (Bs) :=
  some (strN l4)
noncomputable def m_gateref2_bytesOf (s1 : Bs) : Option (Bs) :=
  (m_gateref2_units s1).bind fun (r2 : ((List S_gateref2_unit) × Bool)) => if r2.1.length ≤ 1000000000 then forL (fun (k : Nat) (x : S_gateref2_unit) (s : (List Int)) => gateref2_bytesOf_L1 k x s) (fun (s : (List Int)) => gateref2_bytesOf_E1 s) 0 r2.1 [] else none
noncomputable def gateref2_SegmentsOf_L1 (k10 : Nat) (x13 : Bs) (l9 : (List Bs)) : Option ((List Bs) ⊕ ((List Bs) × Int)) :=
  (m_gateref2_bytesOf x13).bind fun (r17 : (Bs)) => if l9.length + 1 ≤ 1000000000 then (some (.inl (l9 ++ [r17]))) else none
noncomputable def gateref2_SegmentsOf_E1 (l9 : (List Bs)) : Option ((List Bs) × Int) :=
  if decide (100 < (l9.length : Int)) then (some ([], 2)) else (some (l9, 0))
noncomputable def m_gateref2_SegmentsOf (path1 : Bs) : Option ((List Bs) × Int) :=
  (m_gateref2_PathOf path1).bind fun (r2 : (Bs × Int)) => if decide (r2.2 ≠ 0) then (some ([], r2.2)) else ((sub? r2.1 1 (r2.1.length : Int)).bind fun (l5 : Bs) => (m_strings_Split l5 [47]).bind fun (r7 : ((List Bs))) => if r7.length ≤ 1000000000 then forL (fun (k : Nat) (x : Bs) (s : (List Bs)) => gateref2_SegmentsOf_L1 k x s) (fun (s : (List Bs)) => gateref2_SegmentsOf_E1 s) 0 r7 [] else none)
noncomputable def m_strings_Builder_Len (l1 : (List Int)) : Option (Int × (List Int)) :=
  some ((l1.length : Int), l1)
noncomputable def message_Segment_J2 (l25 : (List Int)) : Option ((List Int) ⊕ (Bs)) :=
  some (.inl l25)
noncomputable def message_Segment_J3 (l2 : (List Int)) (x6 : UInt8) (v17 : Bool) : Option ((List Int) ⊕ (Bs)) :=
  if v17 then ((m_strings_Builder_WriteByte l2 (x6.toNat : Int)).bind fun (r19 : (Int × (List Int))) => message_Segment_J2 r19.2) else ((m_message_percent (x6.toNat : Int)).bind fun (r21 : (Bs)) => (m_strings_Builder_WriteString l2 r21).bind fun (r23 : (Int × Int × (List Int))) => message_Segment_J2 r23.2.2)
noncomputable def message_Segment_L1 (k3 : Nat) (x6 : UInt8) (l2 : (List Int)) : Option ((List Int) ⊕ (Bs)) :=
  (m_message_isFree (x6.toNat : Int)).bind fun (r10 : (Bool)) => if r10 then (message_Segment_J3 l2 x6 true) else ((m_strings_IndexByte [33, 36, 38, 39, 40, 41, 42, 43, 44, 59, 61, 58, 64] (x6.toNat : Int)).bind fun (r14 : (Int)) => message_Segment_J3 l2 x6 (decide (0 ≤ r14)))
noncomputable def message_Segment_E1 (l2 : (List Int)) : Option (Bs) :=
  if byR l2 = true then (some (strN l2)) else none
noncomputable def m_message_Segment (s1 : Bs) : Option (Bs) :=
  if s1.length ≤ 1000000000 then forL (fun (k : Nat) (x : UInt8) (s : (List Int)) => message_Segment_L1 k x s) (fun (s : (List Int)) => message_Segment_E1 s) 0 s1 ([] : List Int) else none
noncomputable def message_JoinPath_L1 (k5 : Nat) (x8 : Bs) (l4 : (List Int)) : Option ((List Int) ⊕ (Bs × Int)) :=
  if ((decide (x8 = [46])) || (decide (x8 = [46, 46]))) then (some (.inr ([], 5))) else ((m_message_Segment x8).bind fun (r16 : (Bs)) => if [47].length + r16.length ≤ 1000000000 then ((m_strings_Builder_WriteString l4 ([47] ++ r16)).bind fun (r19 : (Int × Int × (List Int))) => some (.inl r19.2.2)) else none)
noncomputable def message_JoinPath_E1 (l4 : (List Int)) : Option (Bs × Int) :=
  (m_strings_Builder_Len l4).bind fun (r9 : (Int × (List Int))) => if decide (1000 < r9.1) then (some ([], 2)) else (if byR r9.2 = true then (some ((strN r9.2), 0)) else none)
noncomputable def m_message_JoinPath (l1 : (List Bs)) : Option (Bs × Int) :=
  if decide (100 < (l1.length : Int)) then (some ([], 2)) else (if decide ((l1.length : Int) = 0) then (some ([], 3)) else (if l1.length ≤ 1000000000 then forL (fun (k : Nat) (x : Bs) (s : (List Int)) => message_JoinPath_L1 k x s) (fun (s : (List Int)) => message_JoinPath_E1 s) 0 l1 ([] : List Int) else none))
noncomputable def slices_Index_L_string_string__L1 (v2 : Bs) (k3 : Nat) (x6 : Bs) : Option (Unit ⊕ (Int)) :=
  if decide (v2 = x6) then (some (.inr (k3 : Int))) else (some (.inl ()))
noncomputable def slices_Index_L_string_string__E1 : Option (Int) :=
  some (-1)
noncomputable def m_slices_Index_L_string_string_ (s1 : (List Bs)) (v2 : Bs) : Option (Int) :=
  if s1.length ≤ 1000000000 then forL (fun (k : Nat) (x : Bs) (s : Unit) => slices_Index_L_string_string__L1 v2 k x) (fun (s : Unit) => slices_Index_L_string_string__E1) 0 s1 () else none
noncomputable def m_slices_Contains_L_string_string_ (s1 : (List Bs)) (v2 : Bs) : Option (Bool) :=
  (m_slices_Index_L_string_string_ s1 v2).bind fun (r3 : (Int)) => some (decide (0 ≤ r3))
noncomputable def gateref2_PathFrom_J4 (out36 : (List Int)) : Option ((List Int) ⊕ ((List Int) ⊕ (Bs × Int))) :=
  some (.inl out36)
noncomputable def gateref2_PathFrom_L3 (k23 : Nat) (x26 : UInt8) (l22 : (List Int)) : Option ((List Int) ⊕ ((List Int) ⊕ (Bs × Int))) :=
  (m_strings_IndexByte [97, 98, 99, 100, 101, 102, 103, 104, 105, 106, 107, 108, 109, 110, 111, 112, 113, 114, 115, 116, 117, 118, 119, 120, 121, 122, 65, 66, 67, 68, 69, 70, 71, 72, 73, 74, 75, 76, 77, 78, 79, 80, 81, 82, 83, 84, 85, 86, 87, 88, 89, 90, 48, 49, 50, 51, 52, 53, 54, 55, 56, 57, 45, 46, 95, 126, 33, 36, 38, 39, 40, 41, 42, 43, 44, 59, 61, 58, 64] (x26.toNat : Int)).bind fun (r29 : (Int)) => if decide (0 ≤ r29) then (if l22.length + 1 ≤ 1000000000 then (gateref2_PathFrom_J4 (l22 ++ [(x26.toNat : Int)])) else none) else ((m_gateref2_coded (x26.toNat : Int)).bind fun (r33 : (Bs)) => if l22.length + r33.length ≤ 1000000000 then (gateref2_PathFrom_J4 (l22 ++ numsB r33)) else none)
noncomputable def gateref2_PathFrom_E3 (l22 : (List Int)) : Option ((List Int) ⊕ (Bs × Int)) :=
  some (.inl l22)
noncomputable def gateref2_PathFrom_L2 (k14 : Nat) (x17 : Bs) (l13 : (List Int)) : Option ((List Int) ⊕ (Bs × Int)) :=
  if l13.length + 1 ≤ 1000000000 then (if x17.length ≤ 1000000000 then forL (fun (k : Nat) (x : UInt8) (s : (List Int)) => gateref2_PathFrom_L3 k x s) (fun (s : (List Int)) => gateref2_PathFrom_E3 s) 0 x17 (l13 ++ [47]) else none) else none
noncomputable def gateref2_PathFrom_E2 (l13 : (List Int)) : Option (Bs × Int) :=
  if decide (1000 < (l13.length : Int)) then (some ([], 2)) else (some ((strN l13), 0))
noncomputable def gateref2_PathFrom_J1 (l1 : (List Bs)) (v11 : Bool) : Option (Bs × Int) :=
  if v11 then (some ([], 5)) else (if l1.length ≤ 1000000000 then forL (fun (k : Nat) (x : Bs) (s : (List Int)) => gateref2_PathFrom_L2 k x s) (fun (s : (List Int)) => gateref2_PathFrom_E2 s) 0 l1 [] else none)
noncomputable def m_gateref2_PathFrom (l1 : (List Bs)) : Option (Bs × Int) :=
  if decide (100 < (l1.length : Int)) then (some ([], 2)) else (if decide ((l1.length : Int) = 0) then (some ([], 3)) else ((m_slices_Contains_L_string_string_ l1 [46]).bind fun (r4 : (Bool)) => if r4 then (gateref2_PathFrom_J1 l1 true) else ((m_slices_Contains_L_string_string_ l1 [46, 46]).bind fun (r8 : (Bool)) => gateref2_PathFrom_J1 l1 r8)))
noncomputable def slices_Equal_L_string_string__L1 (s2 : (List Bs)) (k4 : Nat) (x7 : Bs) : Option (Unit ⊕ (Bool)) :=
  (s2[k4]?).bind fun (x10 : Bs) => if decide (x7 ≠ x10) then (some (.inr false)) else (some (.inl ()))
noncomputable def slices_Equal_L_string_string__E1 : Option (Bool) :=
  some true
noncomputable def m_slices_Equal_L_string_string_ (s1 : (List Bs)) (s2 : (List Bs)) : Option (Bool) :=
  if decide ((s1.length : Int) ≠ (s2.length : Int)) then some false else (if s1.length ≤ 1000000000 then forL (fun (k : Nat) (x : Bs) (s : Unit) => slices_Equal_L_string_string__L1 s2 k x) (fun (s : Unit) => slices_Equal_L_string_string__E1) 0 s1 () else none)
noncomputable def m_gatelaw2_spoken  : Option (Bool) :=
  (m_message_NormalPath [47, 97, 47, 46, 46, 47, 98]).bind fun (r1 : (Bs × Int)) => some ((decide (r1.2 = 0)) && (decide (r1.1 = [47, 98])))
noncomputable def gatelaw2_PathsNormal_J4 (v81 : Bool) : Option (Bool) :=
  some v81
noncomputable def gatelaw2_PathsNormal_J3 (r2 : (Bs × S_gatemake_Stream)) (r4 : (Bs × S_gatemake_Stream)) (v36 : (List Bs)) : Option (Bool) :=
  (m_message_NormalHost r2.1).bind fun (r37 : (Bs × Int)) => (m_gateref2_HostOf r2.1).bind fun (r39 : (Bs × Int)) => (m_message_NormalPath r4.1).bind fun (r41 : (Bs × Int)) => (m_gateref2_PathOf r4.1).bind fun (r43 : (Bs × Int)) => (m_message_Segments r4.1).bind fun (r45 : ((List Bs) × Int)) => (m_gateref2_SegmentsOf r4.1).bind fun (r47 : ((List Bs) × Int)) => (m_message_JoinPath v36).bind fun (r49 : (Bs × Int)) => (m_gateref2_PathFrom v36).bind fun (r51 : (Bs × Int)) => if decide (r37.1 = r39.1) then (if decide (r37.2 = r39.2) then (if decide (r41.1 = r43.1) then (if decide (r41.2 = r43.2) then ((m_slices_Equal_L_string_string_ r45.1 r47.1).bind fun (r61 : (Bool)) => if r61 then (if decide (r45.2 = r47.2) then (if decide (r49.1 = r51.1) then (if decide (r49.2 = r51.2) then ((m_gatelaw2_spoken ).bind fun (r71 : (Bool)) => gatelaw2_PathsNormal_J4 r71) else (gatelaw2_PathsNormal_J4 false)) else (gatelaw2_PathsNormal_J4 false)) else (gatelaw2_PathsNormal_J4 false)) else (gatelaw2_PathsNormal_J4 false)) else (gatelaw2_PathsNormal_J4 false)) else (gatelaw2_PathsNormal_J4 false)) else (gatelaw2_PathsNormal_J4 false)) else (gatelaw2_PathsNormal_J4 false)
noncomputable def gatelaw2_PathsNormal_J2 (r2 : (Bs × S_gatemake_Stream)) (r4 : (Bs × S_gatemake_Stream)) (v20 : (List Bs)) (c21 : (List Int)) (c22 : Int) : Option (Bool) :=
  (m_gatemake_Stream_Flip (S_gatemake_Stream.mk c21 c22) 40).bind fun (r23 : (Bool × S_gatemake_Stream)) => if r23.1 then ((m_gatemake_Stream_Pick r23.2 [100, 101]).bind fun (r26 : (Int × S_gatemake_Stream)) => if 0 ≤ r26.1 ∧ r26.1 ≤ 1000000000 then (if 0 ≤ (300 : Int) ∧ (300 : Int) ≤ 1000000000 then (if 0 ≤ (320 : Int) ∧ (320 : Int) ≤ 1000000000 then (if 0 ≤ (340 : Int) ∧ (340 : Int) ≤ 1000000000 then ((m_gatemake_Stream_Some r26.2 ([[120], (strN (List.replicate ((300 : Int).toNat) (0 : Int))), (strN (List.replicate ((320 : Int).toNat) (0 : Int))), (strN (List.replicate ((340 : Int).toNat) (0 : Int)))])).bind fun (r32 : (Bs × S_gatemake_Stream)) => ((List.replicate (r26.1.toNat) [])[0]?).bind fun (x34 : Bs) => gatelaw2_PathsNormal_J3 r2 r4 ((List.replicate (r26.1.toNat) []).set 0 r32.1)) else none) else none) else none) else none) else (gatelaw2_PathsNormal_J3 r2 r4 v20)
noncomputable def gatelaw2_PathsNormal_L1 (k11 : Nat) (c8 : (List Int)) (c9 : Int) (l10 : (List Bs)) : Option (((List Int) × Int × (List Bs)) ⊕ (Bool)) :=
  (m_gatemake_Stream_Some (S_gatemake_Stream.mk c8 c9) ([[97], [98, 32, 99], [97, 47, 98], [], [37], [255], [195, 164], [120, 59, 121, 61, 122, 64], [126], [97, 46, 98]])).bind fun (r83 : (Bs × S_gatemake_Stream)) => if l10.length + 1 ≤ 1000000000 then (some (.inl (r83.2.L, r83.2.at_, (l10 ++ [r83.1])))) else none
noncomputable def gatelaw2_PathsNormal_E1 (r2 : (Bs × S_gatemake_Stream)) (r4 : (Bs × S_gatemake_Stream)) (c8 : (List Int)) (c9 : Int) (l10 : (List Bs)) : Option (Bool) :=
  (m_gatemake_Stream_Flip (S_gatemake_Stream.mk c8 c9) 12).bind fun (r14 : (Bool × S_gatemake_Stream)) => if r14.1 then ((m_gatemake_Stream_Some r14.2 ([[46], [46, 46], [46, 46, 46]])).bind fun (r17 : (Bs × S_gatemake_Stream)) => if l10.length + 1 ≤ 1000000000 then (gatelaw2_PathsNormal_J2 r2 r4 (l10 ++ [r17.1]) r17.2.L r17.2.at_) else none) else (gatelaw2_PathsNormal_J2 r2 r4 l10 r14.2.L r14.2.at_)
noncomputable def m_gatelaw2_PathsNormal (v1 : (List Int)) : Option (Bool) :=
  (m_gatemake_Stream_HostName (S_gatemake_Stream.mk v1 0)).bind fun (r2 : (Bs × S_gatemake_Stream)) => (m_gatemake_Stream_PathName r2.2).bind fun (r4 : (Bs × S_gatemake_Stream)) => (m_gatemake_Stream_Range r4.2 0 4).bind fun (r6 : (Int × S_gatemake_Stream)) => if r6.1 ≤ 1000000000 then rng (fun (k : Nat) (s : (List Int) × Int × (List Bs)) => gatelaw2_PathsNormal_L1 k s.1 s.2.1 s.2.2) (fun (s : (List Int) × Int × (List Bs)) => gatelaw2_PathsNormal_E1 r2 r4 s.1 s.2.1 s.2.2) r6.1.toNat 0 (r6.2.L, r6.2.at_, []) else none
end Go.Proofs.YtbejggfkfaibeaaGreatDoor
