/- Plain models of functions. Printed by a program. -/
import Derived.Test.YtgjfcdcpiamikaaGreatDoorMc
import Derived.Test.YtgjfcdcpiamikaaGreatDoorRng
namespace Go.Proofs.YtgjfcdcpiamikaaGreatDoor
set_option linter.unusedVariables false
set_option maxRecDepth 20000
structure S_gatemake_Stream where
  L : (List Int)
  at_ : Int
structure S_api_Header where
  Name : Bs
  Value : Bs
structure S_api_Request where
  At : Int
  Method : Bs
  Host : Bs
  Path : Bs
  Query : Bs
  From : Bs
  Headers : (List S_api_Header)
  Body : Bs
noncomputable def gatemake_Below_J1 (x6 : Int) : Option (Int) :=
  some x6
noncomputable def m_gatemake_Below (x1 : Int) (n2 : Int) : Option (Int) :=
  if decide (n2 < 1) then some 0 else (if n2 ≠ 0 then (if decide ((Int.tmod x1 n2) < 0) then (gatemake_Below_J1 (wr ((Int.tmod x1 n2) + n2))) else (gatemake_Below_J1 (Int.tmod x1 n2))) else none)
noncomputable def m_gatemake_Stream_Next (s1 : S_gatemake_Stream) (n2 : Int) : Option (Int × S_gatemake_Stream) :=
  if decide ((s1.L.length : Int) = 0) then ((m_gatemake_Below (wr ((wr (s1.at_ + 1)) * 7919)) n2).bind fun (r4 : (Int)) => some (r4, (S_gatemake_Stream.mk s1.L (wr (s1.at_ + 1))))) else (if (s1.L.length : Int) ≠ 0 then (if ((0 : Int) ≤ (wr ((wr (s1.at_ + 1)) - 1)) ∧ (wr ((wr (s1.at_ + 1)) - 1)) ≤ 9223372036854775807) ∧ (0 : Int) < (s1.L.length : Int) then ((at? s1.L (Int.tmod (wr ((wr (s1.at_ + 1)) - 1)) (s1.L.length : Int))).bind fun (x8 : Int) => (m_gatemake_Below x8 1073741824).bind fun (r10 : (Int)) => (m_gatemake_Below (wr (r10 + (wr (((wr ((wr (s1.at_ + 1)) - 1)) / (s1.L.length : Int)) * (wr (7919 + (Int.tmod (wr ((wr (s1.at_ + 1)) - 1)) (s1.L.length : Int)))))))) n2).bind fun (r12 : (Int)) => some (r12, (S_gatemake_Stream.mk s1.L (wr (s1.at_ + 1))))) else none) else none)
noncomputable def m_gatemake_Stream_Pick (s1 : S_gatemake_Stream) (l2 : (List Int)) : Option (Int × S_gatemake_Stream) :=
  (m_gatemake_Stream_Next s1 (l2.length : Int)).bind fun (r3 : (Int × S_gatemake_Stream)) => (at? l2 r3.1).bind fun (x5 : Int) => some (x5, r3.2)
noncomputable def m_gatemake_Stream_Some (s1 : S_gatemake_Stream) (l2 : (List Bs)) : Option (Bs × S_gatemake_Stream) :=
  (m_gatemake_Stream_Next s1 (l2.length : Int)).bind fun (r3 : (Int × S_gatemake_Stream)) => (at? l2 r3.1).bind fun (x5 : Bs) => some (x5, r3.2)
noncomputable def m_gatemake_Stream_RightHost (s1 : S_gatemake_Stream) : Option (Bs × S_gatemake_Stream) :=
  (m_gatemake_Stream_Some s1 ([[97, 46, 98], [97, 46, 98], [65, 46, 66], [97, 46, 98, 58, 56, 48], [99, 46, 100, 58, 56, 48, 56, 48]])).bind fun (r2 : (Bs × S_gatemake_Stream)) => some (r2.1, r2.2)
noncomputable def m_gatemake_Stream_Range (s1 : S_gatemake_Stream) (low2 : Int) (high3 : Int) : Option (Int × S_gatemake_Stream) :=
  if decide (high3 < low2) then (some (low2, s1)) else ((m_gatemake_Stream_Next s1 (wr ((wr (high3 - low2)) + 1))).bind fun (r5 : (Int × S_gatemake_Stream)) => some (wr (low2 + r5.1), r5.2))
noncomputable def gatemake_Stream_RightHeaders_L1 (k8 : Nat) (c5 : (List Int)) (c6 : Int) (l7 : (List S_api_Header)) : Option (((List Int) × Int × (List S_api_Header)) ⊕ ((List S_api_Header) × S_gatemake_Stream)) :=
  (m_gatemake_Stream_Some (S_gatemake_Stream.mk c5 c6) ([[97, 99, 99, 101, 112, 116], [65, 99, 99, 101, 112, 116], [120, 45, 111, 110, 101], [88, 45, 84, 119, 111], [99, 111, 111, 107, 105, 101], [118, 97, 114, 121], [99, 111, 110, 110, 101, 99, 116, 105, 111, 110], [120, 45, 102, 111, 114, 119, 97, 114, 100, 101, 100, 45, 102, 111, 114], [118, 105, 97], [120, 45, 102, 111, 114, 119, 97, 114, 100, 101, 100, 45, 104, 111, 115, 116], [116, 101]])).bind fun (r12 : (Bs × S_gatemake_Stream)) => (m_gatemake_Stream_Some r12.2 ([[49], [120], [97, 44, 32, 98], [], [120, 45, 111, 110, 101, 44, 32, 99, 108, 111, 115, 101], [103, 119], [49, 46, 50, 46, 51, 46, 52], [53, 46, 54, 46, 55, 46, 56, 44, 32, 57, 46, 57, 46, 57, 46, 57]])).bind fun (r14 : (Bs × S_gatemake_Stream)) => if l7.length + 1 ≤ 1000000000 then (some (.inl (r14.2.L, r14.2.at_, (l7 ++ [(S_api_Header.mk r12.1 r14.1)])))) else none
noncomputable def gatemake_Stream_RightHeaders_E1 (c5 : (List Int)) (c6 : Int) (l7 : (List S_api_Header)) : Option ((List S_api_Header) × S_gatemake_Stream) :=
  some (l7, (S_gatemake_Stream.mk c5 c6))
noncomputable def m_gatemake_Stream_RightHeaders (s1 : S_gatemake_Stream) (most2 : Int) : Option ((List S_api_Header) × S_gatemake_Stream) :=
  (m_gatemake_Stream_Range s1 0 most2).bind fun (r3 : (Int × S_gatemake_Stream)) => if r3.1 ≤ 1000000000 then rng (fun (k : Nat) (s : (List Int) × Int × (List S_api_Header)) => gatemake_Stream_RightHeaders_L1 k s.1 s.2.1 s.2.2) (fun (s : (List Int) × Int × (List S_api_Header)) => gatemake_Stream_RightHeaders_E1 s.1 s.2.1 s.2.2) r3.1.toNat 0 (r3.2.L, r3.2.at_, []) else none
noncomputable def m_gatemake_Stream_Flip (s1 : S_gatemake_Stream) (n2 : Int) : Option (Bool × S_gatemake_Stream) :=
  (m_gatemake_Stream_Next s1 n2).bind fun (r3 : (Int × S_gatemake_Stream)) => some (decide (r3.1 = 0), r3.2)
noncomputable def gatemake_Stream_RightRequest_J1 (r2 : (Int × S_gatemake_Stream)) (r4 : (Bs × S_gatemake_Stream)) (r6 : (Bs × S_gatemake_Stream)) (r8 : (Bs × S_gatemake_Stream)) (r10 : (Bs × S_gatemake_Stream)) (r12 : (Bs × S_gatemake_Stream)) (r14 : ((List S_api_Header) × S_gatemake_Stream)) (c23 : (List Int)) (c24 : Int) (c25 : Bs) : Option (S_api_Request × S_gatemake_Stream) :=
  some ((S_api_Request.mk r2.1 r4.1 r6.1 r8.1 r10.1 r12.1 r14.1 c25), (S_gatemake_Stream.mk c23 c24))
noncomputable def m_gatemake_Stream_RightRequest (s1 : S_gatemake_Stream) : Option (S_api_Request × S_gatemake_Stream) :=
  (m_gatemake_Stream_Pick s1 [0, 5, 1000, 60000]).bind fun (r2 : (Int × S_gatemake_Stream)) => (m_gatemake_Stream_Some r2.2 ([[71, 69, 84], [71, 69, 84], [71, 69, 84], [72, 69, 65, 68], [80, 79, 83, 84], [103, 101, 116]])).bind fun (r4 : (Bs × S_gatemake_Stream)) => (m_gatemake_Stream_RightHost r4.2).bind fun (r6 : (Bs × S_gatemake_Stream)) => (m_gatemake_Stream_Some r6.2 ([[47], [47, 97], [47, 97], [47, 97, 47, 98], [47, 97, 47, 46, 46, 47, 98], [47, 37, 52, 49]])).bind fun (r8 : (Bs × S_gatemake_Stream)) => (m_gatemake_Stream_Some r8.2 ([[], [], [120, 61, 49], [98, 61, 50, 38, 97, 61, 49]])).bind fun (r10 : (Bs × S_gatemake_Stream)) => (m_gatemake_Stream_Some r10.2 ([[49, 48, 46, 48, 46, 48, 46, 49], [49, 48, 46, 48, 46, 48, 46, 49], [57, 46, 57, 46, 57, 46, 57], []])).bind fun (r12 : (Bs × S_gatemake_Stream)) => (m_gatemake_Stream_RightHeaders r12.2 4).bind fun (r14 : ((List S_api_Header) × S_gatemake_Stream)) => (m_gatemake_Stream_Flip r14.2 4).bind fun (r16 : (Bool × S_gatemake_Stream)) => if r16.1 then ((m_strings_Repeat [97, 98] 40).bind fun (r19 : (Bs)) => (m_gatemake_Stream_Some r16.2 ([[104, 101, 108, 108, 111], [120], r19])).bind fun (r21 : (Bs × S_gatemake_Stream)) => gatemake_Stream_RightRequest_J1 r2 r4 r6 r8 r10 r12 r14 r21.2.L r21.2.at_ r21.1) else (gatemake_Stream_RightRequest_J1 r2 r4 r6 r8 r10 r12 r14 r16.2.L r16.2.at_ [])
noncomputable def m_gatemake_Stream_Odd (s1 : S_gatemake_Stream) (low2 : Int) (high3 : Int) : Option (Int × S_gatemake_Stream) :=
  (m_gatemake_Stream_Flip s1 12).bind fun (r4 : (Bool × S_gatemake_Stream)) => if r4.1 then ((m_gatemake_Stream_Pick r4.2 [wr (low2 - 1), wr (high3 + 1), low2, high3, (-1099511627776), 1099511627776]).bind fun (r7 : (Int × S_gatemake_Stream)) => some (r7.1, r7.2)) else ((m_gatemake_Stream_Range r4.2 low2 high3).bind fun (r9 : (Int × S_gatemake_Stream)) => some (r9.1, r9.2))
noncomputable def m_gatemake_Stream_TokenText (s1 : S_gatemake_Stream) : Option (Bs × S_gatemake_Stream) :=
  (m_strings_Repeat [110] 101).bind fun (r2 : (Bs)) => (m_gatemake_Stream_Some s1 ([[97, 99, 99, 101, 112, 116], [88, 45, 79, 110, 101], [120, 45, 111, 110, 101], [118, 105, 97], [97], [65], [116, 101], [99, 111, 110, 110, 101, 99, 116, 105, 111, 110], [], [97, 32, 98], [97, 58], [127], r2])).bind fun (r4 : (Bs × S_gatemake_Stream)) => some (r4.1, r4.2)
noncomputable def m_gatemake_Stream_HostName (s1 : S_gatemake_Stream) : Option (Bs × S_gatemake_Stream) :=
  (m_strings_Repeat [97] 64).bind fun (r2 : (Bs)) => (m_gatemake_Stream_Some s1 ([[97, 46, 98], [97, 46, 98], [65, 46, 66], [115, 104, 111, 112, 46, 101, 120, 97, 109, 112, 108, 101], [97, 46, 98, 58, 56, 48], [97, 46, 98, 58, 52, 52, 51], [97, 46, 98, 58, 56, 48, 56, 48], [120, 45, 49, 46, 121], [49, 46, 50, 46, 51, 46, 52], [], [97, 46, 46, 98], [45, 97, 46, 98], [97, 46, 98, 58, 48], [97, 46, 98, 58, 48, 56], [97, 46, 98, 58, 54, 53, 53, 51, 54], [97, 95, 98], [97, 46, 98, 58], [97, 32, 98], r2])).bind fun (r4 : (Bs × S_gatemake_Stream)) => some (r4.1, r4.2)
noncomputable def gatemake_Stream_Words_L1 (l4 : (List Bs)) (k8 : Nat) (c5 : (List Int)) (c6 : Int) (l7 : (List Bs)) : Option (((List Int) × Int × (List Bs)) ⊕ (Bs × S_gatemake_Stream)) :=
  (m_gatemake_Stream_Some (S_gatemake_Stream.mk c5 c6) l4).bind fun (r14 : (Bs × S_gatemake_Stream)) => if l7.length + 1 ≤ 1000000000 then (some (.inl (r14.2.L, r14.2.at_, (l7 ++ [r14.1])))) else none
noncomputable def gatemake_Stream_Words_E1 (between3 : Bs) (c5 : (List Int)) (c6 : Int) (l7 : (List Bs)) : Option (Bs × S_gatemake_Stream) :=
  (m_strings_Join l7 between3).bind fun (r11 : (Bs)) => some (r11, (S_gatemake_Stream.mk c5 c6))
noncomputable def m_gatemake_Stream_Words (s1 : S_gatemake_Stream) (many2 : Int) (between3 : Bs) (l4 : (List Bs)) : Option (Bs × S_gatemake_Stream) :=
  if many2 ≤ 1000000000 then rng (fun (k : Nat) (s : (List Int) × Int × (List Bs)) => gatemake_Stream_Words_L1 l4 k s.1 s.2.1 s.2.2) (fun (s : (List Int) × Int × (List Bs)) => gatemake_Stream_Words_E1 between3 s.1 s.2.1 s.2.2) many2.toNat 0 (s1.L, s1.at_, []) else none
noncomputable def m_gatemake_Stream_Changed (s1 : S_gatemake_Stream) (t2 : Bs) (v3 : Bs) : Option (Bs × S_gatemake_Stream) :=
  if ((decide (t2 = [])) || (decide (v3 = []))) then (some (v3, s1)) else ((m_gatemake_Stream_Next s1 (t2.length : Int)).bind fun (r5 : (Int × S_gatemake_Stream)) => (m_gatemake_Stream_Next r5.2 (v3.length : Int)).bind fun (r7 : (Int × S_gatemake_Stream)) => (at? v3 r7.1).bind fun (x9 : UInt8) => (m_gatemake_Stream_Next r7.2 3).bind fun (r11 : (Int × S_gatemake_Stream)) => if decide (r11.1 = 0) then ((sub? t2 0 r5.1).bind fun (l14 : Bs) => if l14.length + (encL (IntKind.wrap .i32 (x9.toNat : Int))).length ≤ 1000000000 then ((sub? t2 (wr (r5.1 + 1)) (t2.length : Int)).bind fun (l17 : Bs) => if (l14 ++ (encL (IntKind.wrap .i32 (x9.toNat : Int)))).length + l17.length ≤ 1000000000 then (some (((l14 ++ (encL (IntKind.wrap .i32 (x9.toNat : Int)))) ++ l17), r11.2)) else none) else none) else (if decide (r11.1 = 1) then ((sub? t2 0 r5.1).bind fun (l21 : Bs) => if l21.length + (encL (IntKind.wrap .i32 (x9.toNat : Int))).length ≤ 1000000000 then ((sub? t2 r5.1 (t2.length : Int)).bind fun (l24 : Bs) => if (l21 ++ (encL (IntKind.wrap .i32 (x9.toNat : Int)))).length + l24.length ≤ 1000000000 then (some (((l21 ++ (encL (IntKind.wrap .i32 (x9.toNat : Int)))) ++ l24), r11.2)) else none) else none) else ((sub? t2 0 r5.1).bind fun (l27 : Bs) => (sub? t2 (wr (r5.1 + 1)) (t2.length : Int)).bind fun (l29 : Bs) => if l27.length + l29.length ≤ 1000000000 then (some ((l27 ++ l29), r11.2)) else none)))
noncomputable def gatemake_Stream_PathName_J2 (p23 : Bs) (c24 : (List Int)) (c25 : Int) : Option (Bs × S_gatemake_Stream) :=
  some (p23, (S_gatemake_Stream.mk c24 c25))
noncomputable def gatemake_Stream_PathName_J1 (p15 : Bs) (c16 : (List Int)) (c17 : Int) : Option (Bs × S_gatemake_Stream) :=
  (m_gatemake_Stream_Flip (S_gatemake_Stream.mk c16 c17) 12).bind fun (r18 : (Bool × S_gatemake_Stream)) => if r18.1 then ((m_gatemake_Stream_Changed r18.2 p15 [47, 46, 37, 50, 102, 65]).bind fun (r21 : (Bs × S_gatemake_Stream)) => gatemake_Stream_PathName_J2 r21.1 r21.2.L r21.2.at_) else (gatemake_Stream_PathName_J2 p15 r18.2.L r18.2.at_)
noncomputable def m_gatemake_Stream_PathName (s1 : S_gatemake_Stream) : Option (Bs × S_gatemake_Stream) :=
  (m_gatemake_Stream_Range s1 0 4).bind fun (r2 : (Int × S_gatemake_Stream)) => (m_gatemake_Stream_Words r2.2 r2.1 [47] ([[97], [98], [37, 52, 49], [37, 50, 102], [37, 55, 101], [46], [46, 46], [], [120, 59, 121], [99, 37, 50, 48, 100], [37, 99, 51, 37, 97, 52], [65], [97, 46, 98], [126]])).bind fun (r4 : (Bs × S_gatemake_Stream)) => if [47].length + r4.1.length ≤ 1000000000 then ((m_gatemake_Stream_Flip r4.2 12).bind fun (r7 : (Bool × S_gatemake_Stream)) => if r7.1 then ((m_strings_Repeat [37, 50, 48] 340).bind fun (r10 : (Bs)) => if [47].length + r10.length ≤ 1000000000 then ((m_gatemake_Stream_Some r7.2 ([[], [97], [47, 97, 63, 98], [47, 97, 35], [47, 37], [47, 37, 52], [47, 37, 122, 122], [47, 127], [47, 97, 32, 98], ([47] ++ r10)])).bind fun (r13 : (Bs × S_gatemake_Stream)) => gatemake_Stream_PathName_J1 r13.1 r13.2.L r13.2.at_) else none) else (gatemake_Stream_PathName_J1 ([47] ++ r4.1) r7.2.L r7.2.at_)) else none
noncomputable def gatemake_Stream_QueryName_J1 (q13 : Bs) (c14 : (List Int)) (c15 : Int) : Option (Bs × S_gatemake_Stream) :=
  some (q13, (S_gatemake_Stream.mk c14 c15))
noncomputable def m_gatemake_Stream_QueryName (s1 : S_gatemake_Stream) : Option (Bs × S_gatemake_Stream) :=
  (m_gatemake_Stream_Range s1 0 4).bind fun (r2 : (Int × S_gatemake_Stream)) => (m_gatemake_Stream_Words r2.2 r2.1 [38] ([[97, 61, 49], [98, 61, 50], [97, 61], [61, 120], [61], [99], [], [97, 61, 37, 52, 49, 43, 37, 50, 66], [100, 61, 120, 37, 50, 54, 121], [98, 61, 37, 99, 51], [97, 61, 49, 61, 50], [97, 63, 98, 61, 47]])).bind fun (r4 : (Bs × S_gatemake_Stream)) => (m_gatemake_Stream_Flip r4.2 12).bind fun (r6 : (Bool × S_gatemake_Stream)) => if r6.1 then ((m_gatemake_Stream_Words r6.2 101 [38] ([[120]])).bind fun (r9 : (Bs × S_gatemake_Stream)) => (m_gatemake_Stream_Some r9.2 ([[35], [97, 37], [37, 103, 49, 61, 50], [97, 32, 98], [128], r9.1])).bind fun (r11 : (Bs × S_gatemake_Stream)) => gatemake_Stream_QueryName_J1 r11.1 r11.2.L r11.2.at_) else (gatemake_Stream_QueryName_J1 r4.1 r6.2.L r6.2.at_)
noncomputable def m_gatemake_Stream_FieldText (s1 : S_gatemake_Stream) : Option (Bs × S_gatemake_Stream) :=
  (m_strings_Repeat [118] 2001).bind fun (r2 : (Bs)) => (m_gatemake_Stream_Some s1 ([[49], [120], [97, 44, 32, 98], [], [116, 101, 120, 116, 47, 104, 116, 109, 108], [99, 108, 111, 115, 101], [120, 45, 111, 110, 101], [103, 119, 44, 32, 98], [49, 46, 50, 46, 51, 46, 52, 44, 32, 53, 46, 54, 46, 55, 46, 56], [32, 120], [120, 32], [97, 9, 98], [128], r2])).bind fun (r4 : (Bs × S_gatemake_Stream)) => some (r4.1, r4.2)
noncomputable def gatemake_Stream_Headers_L3 (k20 : Nat) (l19 : (List S_api_Header)) : Option ((List S_api_Header) ⊕ ((List S_api_Header) × S_gatemake_Stream)) :=
  if l19.length + 1 ≤ 1000000000 then (some (.inl (l19 ++ ([(S_api_Header.mk [110] [118])])))) else none
noncomputable def gatemake_Stream_Headers_J2 (out25 : (List S_api_Header)) (c26 : (List Int)) (c27 : Int) : Option ((List S_api_Header) × S_gatemake_Stream) :=
  some (out25, (S_gatemake_Stream.mk c26 c27))
noncomputable def gatemake_Stream_Headers_E3 (r16 : (Bool × S_gatemake_Stream)) (l19 : (List S_api_Header)) : Option ((List S_api_Header) × S_gatemake_Stream) :=
  gatemake_Stream_Headers_J2 l19 r16.2.L r16.2.at_
noncomputable def gatemake_Stream_Headers_J1 (out13 : (List S_api_Header)) (c14 : (List Int)) (c15 : Int) : Option ((List S_api_Header) × S_gatemake_Stream) :=
  (m_gatemake_Stream_Flip (S_gatemake_Stream.mk c14 c15) 60).bind fun (r16 : (Bool × S_gatemake_Stream)) => if r16.1 then (if 51 ≤ 1000000000 then rng (fun (k : Nat) (s : (List S_api_Header)) => gatemake_Stream_Headers_L3 k s) (fun (s : (List S_api_Header)) => gatemake_Stream_Headers_E3 r16 s) 51 0 out13 else none) else (gatemake_Stream_Headers_J2 out13 r16.2.L r16.2.at_)
noncomputable def m_gatemake_Stream_Headers (s1 : S_gatemake_Stream) (most2 : Int) : Option ((List S_api_Header) × S_gatemake_Stream) :=
  (m_gatemake_Stream_RightHeaders s1 most2).bind fun (r3 : ((List S_api_Header) × S_gatemake_Stream)) => (m_gatemake_Stream_Flip r3.2 10).bind fun (r5 : (Bool × S_gatemake_Stream)) => if r5.1 then ((m_gatemake_Stream_TokenText r5.2).bind fun (r8 : (Bs × S_gatemake_Stream)) => (m_gatemake_Stream_FieldText r8.2).bind fun (r10 : (Bs × S_gatemake_Stream)) => if r3.1.length + 1 ≤ 1000000000 then (gatemake_Stream_Headers_J1 (r3.1 ++ [(S_api_Header.mk r8.1 r10.1)]) r10.2.L r10.2.at_) else none) else (gatemake_Stream_Headers_J1 r3.1 r5.2.L r5.2.at_)
noncomputable def gatemake_Stream_Request_J1 (c34 : (List Int)) (c35 : Int) (c36 : Int) (c37 : Bs) (c38 : Bs) (c39 : Bs) (c40 : Bs) (c41 : Bs) (c42 : (List S_api_Header)) (c43 : Bs) : Option (S_api_Request × S_gatemake_Stream) :=
  some ((S_api_Request.mk c36 c37 c38 c39 c40 c41 c42 c43), (S_gatemake_Stream.mk c34 c35))
noncomputable def m_gatemake_Stream_Request (s1 : S_gatemake_Stream) : Option (S_api_Request × S_gatemake_Stream) :=
  (m_gatemake_Stream_RightRequest s1).bind fun (r2 : (S_api_Request × S_gatemake_Stream)) => (m_gatemake_Stream_Flip r2.2 6).bind fun (r4 : (Bool × S_gatemake_Stream)) => if r4.1 then ((m_gatemake_Stream_Next r4.2 8).bind fun (r7 : (Int × S_gatemake_Stream)) => if decide (r7.1 = 0) then ((m_gatemake_Stream_Odd r7.2 0 1000).bind fun (r10 : (Int × S_gatemake_Stream)) => gatemake_Stream_Request_J1 r10.2.L r10.2.at_ r10.1 r2.1.Method r2.1.Host r2.1.Path r2.1.Query r2.1.From r2.1.Headers r2.1.Body) else (if decide (r7.1 = 1) then ((m_gatemake_Stream_TokenText r7.2).bind fun (r13 : (Bs × S_gatemake_Stream)) => gatemake_Stream_Request_J1 r13.2.L r13.2.at_ r2.1.At r13.1 r2.1.Host r2.1.Path r2.1.Query r2.1.From r2.1.Headers r2.1.Body) else (if decide (r7.1 = 2) then ((m_gatemake_Stream_HostName r7.2).bind fun (r16 : (Bs × S_gatemake_Stream)) => gatemake_Stream_Request_J1 r16.2.L r16.2.at_ r2.1.At r2.1.Method r16.1 r2.1.Path r2.1.Query r2.1.From r2.1.Headers r2.1.Body) else (if decide (r7.1 = 3) then ((m_gatemake_Stream_PathName r7.2).bind fun (r19 : (Bs × S_gatemake_Stream)) => gatemake_Stream_Request_J1 r19.2.L r19.2.at_ r2.1.At r2.1.Method r2.1.Host r19.1 r2.1.Query r2.1.From r2.1.Headers r2.1.Body) else (if decide (r7.1 = 4) then ((m_gatemake_Stream_QueryName r7.2).bind fun (r22 : (Bs × S_gatemake_Stream)) => gatemake_Stream_Request_J1 r22.2.L r22.2.at_ r2.1.At r2.1.Method r2.1.Host r2.1.Path r22.1 r2.1.From r2.1.Headers r2.1.Body) else (if decide (r7.1 = 5) then ((m_gatemake_Stream_FieldText r7.2).bind fun (r25 : (Bs × S_gatemake_Stream)) => gatemake_Stream_Request_J1 r25.2.L r25.2.at_ r2.1.At r2.1.Method r2.1.Host r2.1.Path r2.1.Query r25.1 r2.1.Headers r2.1.Body) else (if decide (r7.1 = 6) then ((m_gatemake_Stream_Headers r7.2 4).bind fun (r28 : ((List S_api_Header) × S_gatemake_Stream)) => gatemake_Stream_Request_J1 r28.2.L r28.2.at_ r2.1.At r2.1.Method r2.1.Host r2.1.Path r2.1.Query r2.1.From r28.1 r2.1.Body) else ((m_gatemake_Stream_Pick r7.2 [20000, 20001]).bind fun (r30 : (Int × S_gatemake_Stream)) => (m_strings_Repeat [98] r30.1).bind fun (r32 : (Bs)) => gatemake_Stream_Request_J1 r30.2.L r30.2.at_ r2.1.At r2.1.Method r2.1.Host r2.1.Path r2.1.Query r2.1.From r2.1.Headers r32)))))))) else (gatemake_Stream_Request_J1 r4.2.L r4.2.at_ r2.1.At r2.1.Method r2.1.Host r2.1.Path r2.1.Query r2.1.From r2.1.Headers r2.1.Body)
noncomputable def m_kit_IsMoment (n1 : Int) : Option (Bool) :=
  some ((decide (0 ≤ n1)) && (decide (n1 < 345686400000)))
noncomputable def m_message_isLetter (c1 : Int) : Option (Bool) :=
  some (((decide (97 ≤ c1)) && (decide (c1 ≤ 122))) || ((decide (65 ≤ c1)) && (decide (c1 ≤ 90))))
noncomputable def m_message_isDigit (c1 : Int) : Option (Bool) :=
  some ((decide (48 ≤ c1)) && (decide (c1 ≤ 57)))
noncomputable def message_isTokenByte_J1 (v14 : Bool) : Option (Bool) :=
  some v14
noncomputable def m_message_isTokenByte (c1 : Int) : Option (Bool) :=
  (m_message_isLetter c1).bind fun (r2 : (Bool)) => if r2 then (message_isTokenByte_J1 true) else ((m_message_isDigit c1).bind fun (r6 : (Bool)) => if r6 then (message_isTokenByte_J1 true) else ((m_strings_IndexByte [33, 35, 36, 37, 38, 39, 42, 43, 45, 46, 94, 95, 96, 124, 126] c1).bind fun (r10 : (Int)) => message_isTokenByte_J1 (decide (0 ≤ r10))))
noncomputable def message_IsToken_L1 (k2 : Nat) (x5 : UInt8) : Option (Unit ⊕ (Bool)) :=
  (m_message_isTokenByte (x5.toNat : Int)).bind fun (r8 : (Bool)) => if !r8 then (some (.inr false)) else (some (.inl ()))
noncomputable def message_IsToken_E1 (s1 : Bs) : Option (Bool) :=
  some ((decide (s1 ≠ [])) && (decide ((s1.length : Int) ≤ 100)))
noncomputable def m_message_IsToken (s1 : Bs) : Option (Bool) :=
  if s1.length ≤ 1000000000 then forL (fun (k : Nat) (x : UInt8) (s : Unit) => message_IsToken_L1 k x) (fun (s : Unit) => message_IsToken_E1 s1) 0 s1 () else none
noncomputable def m_internal_strconv_lower (c1 : Int) : Option (Int) :=
  some (or_ .u8 c1 32)
noncomputable def internal_strconv_underscoreOK_J7 (v47 : Int) (v85 : Int) : Option ((Int × Int) ⊕ (Bool)) :=
  some (.inl (v85, wr (v47 + 1)))
noncomputable def internal_strconv_underscoreOK_J8 (v14 : Bs) (v46 : Int) (v47 : Int) (v78 : Bool) : Option ((Int × Int) ⊕ (Bool)) :=
  if v78 then (internal_strconv_underscoreOK_J7 v47 48) else ((at? v14 v47).bind fun (x80 : UInt8) => if decide ((x80.toNat : Int) = 95) then (if decide (v46 ≠ 48) then (some (.inr false)) else (internal_strconv_underscoreOK_J7 v47 95)) else (if decide (v46 = 95) then (some (.inr false)) else (internal_strconv_underscoreOK_J7 v47 33)))
noncomputable def internal_strconv_underscoreOK_J5 (v86 : Int) : Option (Bool) :=
  some (decide (v86 ≠ 95))
noncomputable def internal_strconv_underscoreOK_L6 (v14 : Bs) (v45 : Bool) (v46 : Int) (v47 : Int) : Option ((Int × Int) ⊕ (Bool)) :=
  if decide (v47 < (v14.length : Int)) then ((at? v14 v47).bind fun (x50 : UInt8) => if decide (48 ≤ (x50.toNat : Int)) then (if decide ((x50.toNat : Int) ≤ 57) then (internal_strconv_underscoreOK_J8 v14 v46 v47 true) else (if v45 then ((m_internal_strconv_lower (x50.toNat : Int)).bind fun (r58 : (Int)) => if decide (97 ≤ r58) then ((m_internal_strconv_lower (x50.toNat : Int)).bind fun (r62 : (Int)) => internal_strconv_underscoreOK_J8 v14 v46 v47 (decide (r62 ≤ 102))) else (internal_strconv_underscoreOK_J8 v14 v46 v47 false)) else (internal_strconv_underscoreOK_J8 v14 v46 v47 false))) else (if v45 then ((m_internal_strconv_lower (x50.toNat : Int)).bind fun (r70 : (Int)) => if decide (97 ≤ r70) then ((m_internal_strconv_lower (x50.toNat : Int)).bind fun (r74 : (Int)) => internal_strconv_underscoreOK_J8 v14 v46 v47 (decide (r74 ≤ 102))) else (internal_strconv_underscoreOK_J8 v14 v46 v47 false)) else (internal_strconv_underscoreOK_J8 v14 v46 v47 false))) else (Option.map .inr (internal_strconv_underscoreOK_J5 v46))
noncomputable def internal_strconv_underscoreOK_J3 (v14 : Bs) (v43 : Int) (v44 : Int) (v45 : Bool) : Option (Bool) :=
  iter (fun (s : Int × Int) => internal_strconv_underscoreOK_L6 v14 v45 s.1 s.2) (v43, v44)
noncomputable def internal_strconv_underscoreOK_J4 (v14 : Bs) (v37 : Bool) : Option (Bool) :=
  if v37 then ((v14[1]?).bind fun (x39 : UInt8) => (m_internal_strconv_lower (x39.toNat : Int)).bind fun (r41 : (Int)) => internal_strconv_underscoreOK_J3 v14 48 2 (decide (r41 = 120))) else (internal_strconv_underscoreOK_J3 v14 94 0 false)
noncomputable def internal_strconv_underscoreOK_J1 (v14 : Bs) : Option (Bool) :=
  if decide (2 ≤ (v14.length : Int)) then ((v14[0]?).bind fun (x17 : UInt8) => if decide ((x17.toNat : Int) = 48) then ((v14[1]?).bind fun (x21 : UInt8) => (m_internal_strconv_lower (x21.toNat : Int)).bind fun (r23 : (Int)) => if decide (r23 = 98) then (internal_strconv_underscoreOK_J4 v14 true) else ((m_internal_strconv_lower (x21.toNat : Int)).bind fun (r27 : (Int)) => if decide (r27 = 111) then (internal_strconv_underscoreOK_J4 v14 true) else ((m_internal_strconv_lower (x21.toNat : Int)).bind fun (r31 : (Int)) => internal_strconv_underscoreOK_J4 v14 (decide (r31 = 120))))) else (internal_strconv_underscoreOK_J4 v14 false)) else (internal_strconv_underscoreOK_J4 v14 false)
noncomputable def internal_strconv_underscoreOK_J2 (v1 : Bs) (v10 : Bool) : Option (Bool) :=
  if v10 then ((sub? v1 1 (v1.length : Int)).bind fun (l12 : Bs) => internal_strconv_underscoreOK_J1 l12) else (internal_strconv_underscoreOK_J1 v1)
noncomputable def m_internal_strconv_underscoreOK (v1 : Bs) : Option (Bool) :=
  if decide (1 ≤ (v1.length : Int)) then ((v1[0]?).bind fun (x4 : UInt8) => if decide ((x4.toNat : Int) = 45) then (internal_strconv_underscoreOK_J2 v1 true) else (internal_strconv_underscoreOK_J2 v1 (decide ((x4.toNat : Int) = 43)))) else (internal_strconv_underscoreOK_J2 v1 false)
noncomputable def internal_strconv_ParseUint_J9 (v87 : Bool) (v88 : Int) : Option ((Bool × Int) ⊕ (Int × Int)) :=
  some (.inl (v87, v88))
noncomputable def internal_strconv_ParseUint_J10 (v46 : Int) (v49 : Int) (v53 : Int) (v55 : Bool) (v56 : Int) (v83 : Int) : Option ((Bool × Int) ⊕ (Int × Int)) :=
  if decide ((IntKind.wrap .u8 v46) ≤ v83) then (some (.inr (0, 2))) else (if decide (v53 ≤ v56) then (some (.inr (IntKind.wrap .u64 ((shl_ .u64 1 (IntKind.wrap .u64 v49)) - 1), 1))) else (if ((decide ((IntKind.wrap .u64 ((IntKind.wrap .u64 (v56 * (IntKind.wrap .u64 v46))) + (IntKind.wrap .u64 v83))) < (IntKind.wrap .u64 (v56 * (IntKind.wrap .u64 v46))))) || (decide ((IntKind.wrap .u64 ((shl_ .u64 1 (IntKind.wrap .u64 v49)) - 1)) < (IntKind.wrap .u64 ((IntKind.wrap .u64 (v56 * (IntKind.wrap .u64 v46))) + (IntKind.wrap .u64 v83)))))) then (some (.inr (IntKind.wrap .u64 ((shl_ .u64 1 (IntKind.wrap .u64 v49)) - 1), 1))) else (internal_strconv_ParseUint_J9 v55 (IntKind.wrap .u64 ((IntKind.wrap .u64 (v56 * (IntKind.wrap .u64 v46))) + (IntKind.wrap .u64 v83))))))
noncomputable def internal_strconv_ParseUint_J11 (v46 : Int) (v49 : Int) (v53 : Int) (v55 : Bool) (v56 : Int) (x60 : Int) (v79 : Bool) : Option ((Bool × Int) ⊕ (Int × Int)) :=
  if v79 then ((m_internal_strconv_lower x60).bind fun (r81 : (Int)) => internal_strconv_ParseUint_J10 v46 v49 v53 v55 v56 (IntKind.wrap .u8 ((IntKind.wrap .u8 (r81 - 97)) + 10))) else (some (.inr (0, 2)))
noncomputable def internal_strconv_ParseUint_L7 (v2 : Int) (v46 : Int) (v49 : Int) (v53 : Int) (k57 : Nat) (x60 : Int) (v55 : Bool) (v56 : Int) : Option ((Bool × Int) ⊕ (Int × Int)) :=
  if ((decide (x60 = 95)) && (decide (v2 = 0))) then (internal_strconv_ParseUint_J9 true v56) else (if ((decide (48 ≤ x60)) && (decide (x60 ≤ 57))) then (internal_strconv_ParseUint_J10 v46 v49 v53 v55 v56 (IntKind.wrap .u8 (x60 - 48))) else ((m_internal_strconv_lower x60).bind fun (r72 : (Int)) => if decide (97 ≤ r72) then ((m_internal_strconv_lower x60).bind fun (r76 : (Int)) => internal_strconv_ParseUint_J11 v46 v49 v53 v55 v56 x60 (decide (r76 ≤ 122))) else (internal_strconv_ParseUint_J11 v46 v49 v53 v55 v56 x60 false)))
noncomputable def internal_strconv_ParseUint_J8 (v56 : Int) (v66 : Bool) : Option (Int × Int) :=
  if v66 then (some (0, 2)) else (some (v56, 0))
noncomputable def internal_strconv_ParseUint_E7 (v1 : Bs) (v55 : Bool) (v56 : Int) : Option (Int × Int) :=
  if v55 then ((m_internal_strconv_underscoreOK v1).bind fun (r63 : (Bool)) => internal_strconv_ParseUint_J8 v56 (!r63)) else (internal_strconv_ParseUint_J8 v56 false)
noncomputable def internal_strconv_ParseUint_J6 (v1 : Bs) (v2 : Int) (v45 : Bs) (v46 : Int) (v49 : Int) (v53 : Int) : Option (Int × Int) :=
  if (0 : Int) ≤ (IntKind.wrap .u64 v49) then (if (numsB v45).length ≤ 1000000000 then forL (fun (k : Nat) (x : Int) (s : Bool × Int) => internal_strconv_ParseUint_L7 v2 v46 v49 v53 k x s.1 s.2) (fun (s : Bool × Int) => internal_strconv_ParseUint_E7 v1 s.1 s.2) 0 (numsB v45) (false, 0) else none) else none
noncomputable def internal_strconv_ParseUint_J5 (v1 : Bs) (v2 : Int) (v45 : Bs) (v46 : Int) (v49 : Int) : Option (Int × Int) :=
  if decide (v46 = 10) then (internal_strconv_ParseUint_J6 v1 v2 v45 v46 v49 1844674407370955162) else (if decide (v46 = 16) then (internal_strconv_ParseUint_J6 v1 v2 v45 v46 v49 1152921504606846976) else (if (IntKind.wrap .u64 v46) ≠ 0 then (internal_strconv_ParseUint_J6 v1 v2 v45 v46 v49 (IntKind.wrap .u64 ((IntKind.wrap .u64 (Int.tdiv 18446744073709551615 (IntKind.wrap .u64 v46))) + 1))) else none))
noncomputable def internal_strconv_ParseUint_J1 (v1 : Bs) (v2 : Int) (v3 : Int) (v45 : Bs) (v46 : Int) : Option (Int × Int) :=
  if decide (v3 = 0) then (internal_strconv_ParseUint_J5 v1 v2 v45 v46 64) else (if ((decide (v3 < 0)) || (decide (64 < v3))) then (some (0, 4)) else (internal_strconv_ParseUint_J5 v1 v2 v45 v46 v3))
noncomputable def internal_strconv_ParseUint_J4 (v1 : Bs) (v2 : Int) (v3 : Int) (v39 : Bool) : Option (Int × Int) :=
  if v39 then ((sub? v1 2 (v1.length : Int)).bind fun (l41 : Bs) => internal_strconv_ParseUint_J1 v1 v2 v3 l41 16) else ((sub? v1 1 (v1.length : Int)).bind fun (l43 : Bs) => internal_strconv_ParseUint_J1 v1 v2 v3 l43 8)
noncomputable def internal_strconv_ParseUint_J3 (v1 : Bs) (v2 : Int) (v3 : Int) (v28 : Bool) : Option (Int × Int) :=
  if v28 then ((sub? v1 2 (v1.length : Int)).bind fun (l30 : Bs) => internal_strconv_ParseUint_J1 v1 v2 v3 l30 8) else (if decide (3 ≤ (v1.length : Int)) then ((v1[1]?).bind fun (x34 : UInt8) => (m_internal_strconv_lower (x34.toNat : Int)).bind fun (r36 : (Int)) => internal_strconv_ParseUint_J4 v1 v2 v3 (decide (r36 = 120))) else (internal_strconv_ParseUint_J4 v1 v2 v3 false))
noncomputable def internal_strconv_ParseUint_J2 (v1 : Bs) (v2 : Int) (v3 : Int) (v17 : Bool) : Option (Int × Int) :=
  if v17 then ((sub? v1 2 (v1.length : Int)).bind fun (l19 : Bs) => internal_strconv_ParseUint_J1 v1 v2 v3 l19 2) else (if decide (3 ≤ (v1.length : Int)) then ((v1[1]?).bind fun (x23 : UInt8) => (m_internal_strconv_lower (x23.toNat : Int)).bind fun (r25 : (Int)) => internal_strconv_ParseUint_J3 v1 v2 v3 (decide (r25 = 111))) else (internal_strconv_ParseUint_J3 v1 v2 v3 false))
noncomputable def m_internal_strconv_ParseUint (v1 : Bs) (v2 : Int) (v3 : Int) : Option (Int × Int) :=
  if decide (v1 = []) then (some (0, 2)) else (if ((decide (2 ≤ v2)) && (decide (v2 ≤ 36))) then (internal_strconv_ParseUint_J1 v1 v2 v3 v1 v2) else (if decide (v2 = 0) then ((v1[0]?).bind fun (x7 : UInt8) => if decide ((x7.toNat : Int) = 48) then (if decide (3 ≤ (v1.length : Int)) then ((v1[1]?).bind fun (x12 : UInt8) => (m_internal_strconv_lower (x12.toNat : Int)).bind fun (r14 : (Int)) => internal_strconv_ParseUint_J2 v1 v2 v3 (decide (r14 = 98))) else (internal_strconv_ParseUint_J2 v1 v2 v3 false)) else (internal_strconv_ParseUint_J1 v1 v2 v3 v1 10)) else (some (0, 3))))
noncomputable def internal_strconv_ParseInt_J4 (v31 : Int) : Option (Int × Int) :=
  some (v31, 0)
noncomputable def internal_strconv_ParseInt_J3 (v14 : Bool) (r15 : (Int × Int)) (v24 : Int) : Option (Int × Int) :=
  if (0 : Int) ≤ (IntKind.wrap .u64 (wr (v24 - 1))) then (if ((!v14) && (decide ((shl_ .u64 1 (IntKind.wrap .u64 (wr (v24 - 1)))) ≤ r15.1))) then (some (IntKind.wrap .i64 (IntKind.wrap .u64 ((shl_ .u64 1 (IntKind.wrap .u64 (wr (v24 - 1)))) - 1)), 1)) else (if (v14 && (decide ((shl_ .u64 1 (IntKind.wrap .u64 (wr (v24 - 1)))) < r15.1))) then (if -9223372036854775807 ≤ IntKind.wrap .i64 (shl_ .u64 1 (IntKind.wrap .u64 (wr (v24 - 1)))) ∧ IntKind.wrap .i64 (shl_ .u64 1 (IntKind.wrap .u64 (wr (v24 - 1)))) ≤ 9223372036854775807 then (some ((-(IntKind.wrap .i64 (shl_ .u64 1 (IntKind.wrap .u64 (wr (v24 - 1)))))), 1)) else none) else (if v14 then (if -9223372036854775807 ≤ IntKind.wrap .i64 r15.1 ∧ IntKind.wrap .i64 r15.1 ≤ 9223372036854775807 then (internal_strconv_ParseInt_J4 (-(IntKind.wrap .i64 r15.1))) else none) else (internal_strconv_ParseInt_J4 (IntKind.wrap .i64 r15.1))))) else none
noncomputable def internal_strconv_ParseInt_J2 (v3 : Int) (v14 : Bool) (r15 : (Int × Int)) (v21 : Bool) : Option (Int × Int) :=
  if v21 then (some (0, r15.2)) else (if decide (v3 = 0) then (internal_strconv_ParseInt_J3 v14 r15 64) else (internal_strconv_ParseInt_J3 v14 r15 v3))
noncomputable def internal_strconv_ParseInt_J1 (v2 : Int) (v3 : Int) (v13 : Bs) (v14 : Bool) : Option (Int × Int) :=
  (m_internal_strconv_ParseUint v13 v2 v3).bind fun (r15 : (Int × Int)) => if decide (r15.2 ≠ 0) then (if (0 : Int) ≤ r15.2 ∧ r15.2 ≤ (4 : Int) then (internal_strconv_ParseInt_J2 v3 v14 r15 (decide (r15.2 ≠ 1))) else none) else (internal_strconv_ParseInt_J2 v3 v14 r15 false)
noncomputable def m_internal_strconv_ParseInt (v1 : Bs) (v2 : Int) (v3 : Int) : Option (Int × Int) :=
  if decide (v1 = []) then (some (0, 2)) else ((v1[0]?).bind fun (x5 : UInt8) => if decide ((x5.toNat : Int) = 43) then ((sub? v1 1 (v1.length : Int)).bind fun (l8 : Bs) => internal_strconv_ParseInt_J1 v2 v3 l8 false) else (if decide ((x5.toNat : Int) = 45) then ((sub? v1 1 (v1.length : Int)).bind fun (l11 : Bs) => internal_strconv_ParseInt_J1 v2 v3 l11 true) else (internal_strconv_ParseInt_J1 v2 v3 v1 false)))
noncomputable def internal_strconv_Atoi_L3 (k15 : Nat) (x18 : Int) (v14 : Int) : Option (Int ⊕ (Int × Int)) :=
  if decide (9 < (IntKind.wrap .u8 (x18 - 48))) then (some (.inr (0, 2))) else (some (.inl (wr ((wr (v14 * 10)) + (IntKind.wrap .i64 (IntKind.wrap .u8 (x18 - 48)))))))
noncomputable def internal_strconv_Atoi_J4 (v23 : Int) : Option (Int × Int) :=
  some (v23, 0)
noncomputable def internal_strconv_Atoi_E3 (v1 : Bs) (v14 : Int) : Option (Int × Int) :=
  (v1[0]?).bind fun (x19 : UInt8) => if decide ((x19.toNat : Int) = 45) then (if -9223372036854775807 ≤ v14 ∧ v14 ≤ 9223372036854775807 then (internal_strconv_Atoi_J4 (-v14)) else none) else (internal_strconv_Atoi_J4 v14)
noncomputable def internal_strconv_Atoi_J1 (v1 : Bs) (v13 : Bs) : Option (Int × Int) :=
  if (numsB v13).length ≤ 1000000000 then forL (fun (k : Nat) (x : Int) (s : Int) => internal_strconv_Atoi_L3 k x s) (fun (s : Int) => internal_strconv_Atoi_E3 v1 s) 0 (numsB v13) 0 else none
noncomputable def internal_strconv_Atoi_J2 (v1 : Bs) (v8 : Bool) : Option (Int × Int) :=
  if v8 then ((sub? v1 1 (v1.length : Int)).bind fun (l10 : Bs) => if decide ((l10.length : Int) < 1) then (some (0, 2)) else (internal_strconv_Atoi_J1 v1 l10)) else (internal_strconv_Atoi_J1 v1 v1)
noncomputable def m_internal_strconv_Atoi (v1 : Bs) : Option (Int × Int) :=
  if ((false && ((decide (0 < (v1.length : Int))) && (decide ((v1.length : Int) < 10)))) || (true && ((decide (0 < (v1.length : Int))) && (decide ((v1.length : Int) < 19))))) then ((v1[0]?).bind fun (x3 : UInt8) => if decide ((x3.toNat : Int) = 45) then (internal_strconv_Atoi_J2 v1 true) else (internal_strconv_Atoi_J2 v1 (decide ((x3.toNat : Int) = 43)))) else ((m_internal_strconv_ParseInt v1 10 0).bind fun (r27 : (Int × Int)) => some (r27.1, r27.2))
noncomputable def m_strconv_Atoi (s1 : Bs) : Option (Int × Int) :=
  (m_internal_strconv_Atoi s1).bind fun (r2 : (Int × Int)) => if decide (r2.2 ≠ 0) then ((m_strconv_toError [65, 116, 111, 105] s1 0 0 r2.2).bind fun (r5 : (Int)) => some (r2.1, r5)) else (some (r2.1, 0))
noncomputable def kit_Number_J3 (v29 : Bool) : Option (Unit ⊕ (Int × Bool)) :=
  if v29 then (some (.inr (0, false))) else (some (.inl ()))
noncomputable def kit_Number_L2 (i18 : Nat) (x21 : UInt8) : Option (Unit ⊕ (Int × Bool)) :=
  if decide ((x21.toNat : Int) < 48) then (kit_Number_J3 true) else (kit_Number_J3 (decide (57 < (x21.toNat : Int))))
noncomputable def kit_Number_E2 (s1 : Bs) : Option (Int × Bool) :=
  (m_strconv_Atoi s1).bind fun (r22 : (Int × Int)) => some (r22.1, decide (r22.2 = 0))
noncomputable def kit_Number_J1 (s1 : Bs) (r3 : (Bs)) (v16 : Bool) : Option (Int × Bool) :=
  if v16 then (some (0, false)) else (if r3.length ≤ 1000000000 then forL (fun (k : Nat) (x : UInt8) (s : Unit) => kit_Number_L2 k x) (fun (s : Unit) => kit_Number_E2 s1) 0 r3 () else none)
noncomputable def m_kit_Number (s1 : Bs) (most2 : Int) : Option (Int × Bool) :=
  (m_strings_TrimPrefix s1 [45]).bind fun (r3 : (Bs)) => if decide (r3 = []) then (kit_Number_J1 s1 r3 true) else (if decide (most2 < (r3.length : Int)) then (kit_Number_J1 s1 r3 true) else ((r3[0]?).bind fun (x9 : UInt8) => if decide ((x9.toNat : Int) = 48) then (kit_Number_J1 s1 r3 (decide (s1 ≠ [48]))) else (kit_Number_J1 s1 r3 false)))
noncomputable def m_kit_Small (s1 : Bs) : Option (Int × Bool) :=
  (m_kit_Number s1 9).bind fun (r2 : (Int × Bool)) => some (r2.1, r2.2)
noncomputable def m_kit_Outside (n1 : Int) (low2 : Int) (high3 : Int) : Option (Bool) :=
  some ((decide (n1 < low2)) || (decide (high3 < n1)))
noncomputable def message_isLabel_J2 (v19 : Bool) : Option (Bool) :=
  some v19
noncomputable def message_isLabel_J3 (v32 : Bool) : Option (Unit ⊕ (Bool)) :=
  if v32 then (some (.inr false)) else (some (.inl ()))
noncomputable def message_isLabel_L1 (k2 : Nat) (x5 : UInt8) : Option (Unit ⊕ (Bool)) :=
  (m_message_isLetter (x5.toNat : Int)).bind fun (r22 : (Bool)) => if !r22 then ((m_message_isDigit (x5.toNat : Int)).bind fun (r26 : (Bool)) => if !r26 then (message_isLabel_J3 (decide ((x5.toNat : Int) ≠ 45))) else (message_isLabel_J3 false)) else (message_isLabel_J3 false)
noncomputable def message_isLabel_E1 (s1 : Bs) : Option (Bool) :=
  if decide (s1 ≠ []) then (if decide ((s1.length : Int) ≤ 63) then ((s1[0]?).bind fun (x10 : UInt8) => if decide ((x10.toNat : Int) ≠ 45) then ((at? s1 (wr ((s1.length : Int) - 1))).bind fun (x14 : UInt8) => message_isLabel_J2 (decide ((x14.toNat : Int) ≠ 45))) else (message_isLabel_J2 false)) else (message_isLabel_J2 false)) else (message_isLabel_J2 false)
noncomputable def m_message_isLabel (s1 : Bs) : Option (Bool) :=
  if s1.length ≤ 1000000000 then forL (fun (k : Nat) (x : UInt8) (s : Unit) => message_isLabel_L1 k x) (fun (s : Unit) => message_isLabel_E1 s1) 0 s1 () else none
noncomputable def message_isHost_J2 (v23 : Bool) : Option (Bool) :=
  some v23
noncomputable def message_isHost_L1 (k6 : Nat) (x9 : Bs) : Option (Unit ⊕ (Bool)) :=
  (m_message_isLabel x9).bind fun (r26 : (Bool)) => if !r26 then (some (.inr false)) else (some (.inl ()))
noncomputable def message_isHost_E1 (s1 : Bs) (r2 : (Bs × Bs × Bool)) : Option (Bool) :=
  (m_kit_Small r2.2.1).bind fun (r10 : (Int × Bool)) => if decide ((s1.length : Int) ≤ 255) then (if !r2.2.2 then (message_isHost_J2 true) else (if r10.2 then ((m_kit_Outside r10.1 1 65535).bind fun (r18 : (Bool)) => message_isHost_J2 (!r18)) else (message_isHost_J2 false))) else (message_isHost_J2 false)
noncomputable def m_message_isHost (s1 : Bs) : Option (Bool) :=
  (m_strings_Cut s1 [58]).bind fun (r2 : (Bs × Bs × Bool)) => (m_strings_Split r2.1 [46]).bind fun (r4 : ((List Bs))) => if r4.length ≤ 1000000000 then forL (fun (k : Nat) (x : Bs) (s : Unit) => message_isHost_L1 k x) (fun (s : Unit) => message_isHost_E1 s1 r2) 0 r4 () else none
noncomputable def message_isRange_J2 (v13 : Bool) : Option (Unit ⊕ (Bool)) :=
  if v13 then (some (.inr false)) else (some (.inl ()))
noncomputable def message_isRange_L1 (low2 : Int) (high3 : Int) (k4 : Nat) (x7 : UInt8) : Option (Unit ⊕ (Bool)) :=
  if decide ((x7.toNat : Int) < low2) then (message_isRange_J2 true) else (message_isRange_J2 (decide (high3 < (x7.toNat : Int))))
noncomputable def message_isRange_E1 : Option (Bool) :=
  some true
noncomputable def m_message_isRange (s1 : Bs) (low2 : Int) (high3 : Int) : Option (Bool) :=
  if s1.length ≤ 1000000000 then forL (fun (k : Nat) (x : UInt8) (s : Unit) => message_isRange_L1 low2 high3 k x) (fun (s : Unit) => message_isRange_E1) 0 s1 () else none
noncomputable def message_PathFault_J1 (v17 : Bool) : Option (Int) :=
  if v17 then some 3 else some 0
noncomputable def m_message_PathFault (s1 : Bs) : Option (Int) :=
  if decide (1000 < (s1.length : Int)) then (message_PathFault_J1 true) else ((m_strings_HasPrefix s1 [47]).bind fun (r4 : (Bool)) => if !r4 then (message_PathFault_J1 true) else ((m_message_isRange s1 33 126).bind fun (r8 : (Bool)) => if !r8 then (message_PathFault_J1 true) else ((m_strings_ContainsAny s1 [63, 35]).bind fun (r12 : (Bool)) => message_PathFault_J1 r12)))
noncomputable def message_queryFault_J1 (v12 : Bool) : Option (Int) :=
  if v12 then some 3 else some 0
noncomputable def m_message_queryFault (s1 : Bs) : Option (Int) :=
  if decide (1000 < (s1.length : Int)) then (message_queryFault_J1 true) else ((m_message_isRange s1 33 126).bind fun (r4 : (Bool)) => if !r4 then (message_queryFault_J1 true) else ((m_strings_Contains s1 [35]).bind fun (r8 : (Bool)) => message_queryFault_J1 r8))
noncomputable def strings_trimRightByte_J1 (s14 : Bs) : Option (Bs) :=
  some s14
noncomputable def strings_trimRightByte_J3 (s3 : Bs) (v10 : Bool) : Option (Bs ⊕ (Bs)) :=
  if v10 then ((sub? s3 0 (wr ((s3.length : Int) - 1))).bind fun (l12 : Bs) => some (.inl l12)) else (Option.map .inr (strings_trimRightByte_J1 s3))
noncomputable def strings_trimRightByte_L2 (c2 : Int) (s3 : Bs) : Option (Bs ⊕ (Bs)) :=
  if decide (0 < (s3.length : Int)) then ((at? s3 (wr ((s3.length : Int) - 1))).bind fun (x7 : UInt8) => strings_trimRightByte_J3 s3 (decide ((x7.toNat : Int) = c2))) else (strings_trimRightByte_J3 s3 false)
noncomputable def m_strings_trimRightByte (s1 : Bs) (c2 : Int) : Option (Bs) :=
  iter (fun (s : Bs) => strings_trimRightByte_L2 c2 s) s1
noncomputable def strings_trimLeftByte_J1 (s14 : Bs) : Option (Bs) :=
  some s14
noncomputable def strings_trimLeftByte_J3 (s3 : Bs) (v10 : Bool) : Option (Bs ⊕ (Bs)) :=
  if v10 then ((sub? s3 1 (s3.length : Int)).bind fun (l12 : Bs) => some (.inl l12)) else (Option.map .inr (strings_trimLeftByte_J1 s3))
noncomputable def strings_trimLeftByte_L2 (c2 : Int) (s3 : Bs) : Option (Bs ⊕ (Bs)) :=
  if decide (0 < (s3.length : Int)) then ((s3[0]?).bind fun (x7 : UInt8) => strings_trimLeftByte_J3 s3 (decide ((x7.toNat : Int) = c2))) else (strings_trimLeftByte_J3 s3 false)
noncomputable def m_strings_trimLeftByte (s1 : Bs) (c2 : Int) : Option (Bs) :=
  iter (fun (s : Bs) => strings_trimLeftByte_L2 c2 s) s1
noncomputable def strings_Trim_J1 (s1 : Bs) (cutset2 : Bs) (v9 : Bool) : Option (Bs) :=
  if v9 then ((cutset2[0]?).bind fun (x11 : UInt8) => (m_strings_trimRightByte s1 (x11.toNat : Int)).bind fun (r13 : (Bs)) => (m_strings_trimLeftByte r13 (x11.toNat : Int)).bind fun (r15 : (Bs)) => some r15) else none
noncomputable def m_strings_Trim (s1 : Bs) (cutset2 : Bs) : Option (Bs) :=
  if ((decide (s1 = [])) || (decide (cutset2 = []))) then some s1 else (if decide ((cutset2.length : Int) = 1) then ((cutset2[0]?).bind fun (x6 : UInt8) => strings_Trim_J1 s1 cutset2 (decide ((x6.toNat : Int) < 128))) else (strings_Trim_J1 s1 cutset2 false))
noncomputable def message_IsField_J1 (v12 : Bool) : Option (Bool) :=
  some v12
noncomputable def m_message_IsField (s1 : Bs) : Option (Bool) :=
  if decide ((s1.length : Int) ≤ 2000) then ((m_message_isRange s1 32 126).bind fun (r4 : (Bool)) => if r4 then ((m_strings_Trim s1 [32]).bind fun (r8 : (Bs)) => message_IsField_J1 (decide (r8 = s1))) else (message_IsField_J1 false)) else (message_IsField_J1 false)
noncomputable def message_CheckHeaders_L1 (k3 : Nat) (x6 : S_api_Header) : Option (Unit ⊕ (Int)) :=
  (m_message_IsToken x6.Name).bind fun (r9 : (Bool)) => if !r9 then (some (.inr 5)) else ((m_message_IsField x6.Value).bind fun (r12 : (Bool)) => if !r12 then (some (.inr 3)) else (some (.inl ())))
noncomputable def message_CheckHeaders_E1 : Option (Int) :=
  some 0
noncomputable def m_message_CheckHeaders (l1 : (List S_api_Header)) : Option (Int) :=
  if decide (50 < (l1.length : Int)) then some 2 else (if l1.length ≤ 1000000000 then forL (fun (k : Nat) (x : S_api_Header) (s : Unit) => message_CheckHeaders_L1 k x) (fun (s : Unit) => message_CheckHeaders_E1) 0 l1 () else none)
noncomputable def message_CheckRequest_J1 (r1 : S_api_Request) (v25 : Bool) : Option (Int) :=
  if v25 then some 3 else ((m_message_CheckHeaders r1.Headers).bind fun (r27 : (Int)) => if decide (r27 ≠ 0) then some r27 else (if decide (20000 < (r1.Body.length : Int)) then some 2 else some 0))
noncomputable def m_message_CheckRequest (r1 : S_api_Request) : Option (Int) :=
  (m_kit_IsMoment r1.At).bind fun (r2 : (Bool)) => if !r2 then some 1 else ((m_message_IsToken r1.Method).bind fun (r5 : (Bool)) => if !r5 then some 5 else ((m_message_isHost r1.Host).bind fun (r8 : (Bool)) => if !r8 then (message_CheckRequest_J1 r1 true) else ((m_message_PathFault r1.Path).bind fun (r12 : (Int)) => if decide (r12 ≠ 0) then (message_CheckRequest_J1 r1 true) else ((m_message_queryFault r1.Query).bind fun (r16 : (Int)) => if decide (r16 ≠ 0) then (message_CheckRequest_J1 r1 true) else ((m_message_IsField r1.From).bind fun (r20 : (Bool)) => message_CheckRequest_J1 r1 (!r20))))))
noncomputable def m_message_isNamed (h1 : S_api_Header) (name2 : Bs) : Option (Bool) :=
  (m_strings_EqualFold h1.Name name2).bind fun (r3 : (Bool)) => some r3
noncomputable def message_Values_J2 (out14 : (List Bs)) : Option ((List Bs) ⊕ ((List Bs))) :=
  some (.inl out14)
noncomputable def message_Values_L1 (name2 : Bs) (k4 : Nat) (x7 : S_api_Header) (l3 : (List Bs)) : Option ((List Bs) ⊕ ((List Bs))) :=
  (m_message_isNamed x7 name2).bind fun (r10 : (Bool)) => if r10 then (if l3.length + 1 ≤ 1000000000 then (message_Values_J2 (l3 ++ [x7.Value])) else none) else (message_Values_J2 l3)
noncomputable def message_Values_E1 (l3 : (List Bs)) : Option ((List Bs)) :=
  some l3
noncomputable def m_message_Values (l1 : (List S_api_Header)) (name2 : Bs) : Option ((List Bs)) :=
  if l1.length ≤ 1000000000 then forL (fun (k : Nat) (x : S_api_Header) (s : (List Bs)) => message_Values_L1 name2 k x s) (fun (s : (List Bs)) => message_Values_E1 s) 0 l1 [] else none
noncomputable def message_Parts_J3 (out22 : (List Bs)) : Option ((List Bs) ⊕ ((List Bs) ⊕ ((List Bs)))) :=
  some (.inl out22)
noncomputable def message_Parts_L2 (k12 : Nat) (x15 : Bs) (l11 : (List Bs)) : Option ((List Bs) ⊕ ((List Bs) ⊕ ((List Bs)))) :=
  (m_strings_Trim x15 [32]).bind fun (r18 : (Bs)) => if decide (r18 ≠ []) then (if l11.length + 1 ≤ 1000000000 then (message_Parts_J3 (l11 ++ [r18])) else none) else (message_Parts_J3 l11)
noncomputable def message_Parts_E2 (l11 : (List Bs)) : Option ((List Bs) ⊕ ((List Bs))) :=
  some (.inl l11)
noncomputable def message_Parts_L1 (k3 : Nat) (x6 : Bs) (l2 : (List Bs)) : Option ((List Bs) ⊕ ((List Bs))) :=
  (m_strings_Split x6 [44]).bind fun (r9 : ((List Bs))) => if r9.length ≤ 1000000000 then forL (fun (k : Nat) (x : Bs) (s : (List Bs)) => message_Parts_L2 k x s) (fun (s : (List Bs)) => message_Parts_E2 s) 0 r9 l2 else none
noncomputable def message_Parts_E1 (l2 : (List Bs)) : Option ((List Bs)) :=
  some l2
noncomputable def m_message_Parts (values1 : (List Bs)) : Option ((List Bs)) :=
  if values1.length ≤ 1000000000 then forL (fun (k : Nat) (x : Bs) (s : (List Bs)) => message_Parts_L1 k x s) (fun (s : (List Bs)) => message_Parts_E1 s) 0 values1 [] else none
noncomputable def slices_Index_L_string_string__L1 (v2 : Bs) (k3 : Nat) (x6 : Bs) : Option (Unit ⊕ (Int)) :=
  if decide (v2 = x6) then (some (.inr (k3 : Int))) else (some (.inl ()))
noncomputable def slices_Index_L_string_string__E1 : Option (Int) :=
  some (-1)
noncomputable def m_slices_Index_L_string_string_ (s1 : (List Bs)) (v2 : Bs) : Option (Int) :=
  if s1.length ≤ 1000000000 then forL (fun (k : Nat) (x : Bs) (s : Unit) => slices_Index_L_string_string__L1 v2 k x) (fun (s : Unit) => slices_Index_L_string_string__E1) 0 s1 () else none
noncomputable def m_slices_Contains_L_string_string_ (s1 : (List Bs)) (v2 : Bs) : Option (Bool) :=
  (m_slices_Index_L_string_string_ s1 v2).bind fun (r3 : (Int)) => some (decide (0 ≤ r3))
noncomputable def m_message_hopNames  : Option ((List Bs)) :=
  some ([[99, 111, 110, 110, 101, 99, 116, 105, 111, 110], [107, 101, 101, 112, 45, 97, 108, 105, 118, 101], [116, 101], [116, 114, 97, 105, 108, 101, 114], [117, 112, 103, 114, 97, 100, 101]])
noncomputable def slices_Concat_L_string_string__L2 (k10 : Nat) (x13 : (List Bs)) (l9 : (List Bs)) : Option ((List Bs) ⊕ ((List Bs))) :=
  if l9.length + x13.length ≤ 1000000000 then (some (.inl (l9 ++ x13))) else none
noncomputable def slices_Concat_L_string_string__E2 (l9 : (List Bs)) : Option ((List Bs)) :=
  some l9
noncomputable def slices_Concat_L_string_string__L1 (k3 : Nat) (x6 : (List Bs)) (size2 : Int) : Option (Int ⊕ ((List Bs))) :=
  if decide ((wr (size2 + (x6.length : Int))) < 0) then none else (some (.inl (wr (size2 + (x6.length : Int)))))
noncomputable def slices_Concat_L_string_string__E1 (slices1 : (List (List Bs))) (size2 : Int) : Option ((List Bs)) :=
  (m_slices_Grow size2).bind fun (r7 : ((List Bs))) => if slices1.length ≤ 1000000000 then forL (fun (k : Nat) (x : (List Bs)) (s : (List Bs)) => slices_Concat_L_string_string__L2 k x s) (fun (s : (List Bs)) => slices_Concat_L_string_string__E2 s) 0 slices1 r7 else none
noncomputable def m_slices_Concat_L_string_string_ (slices1 : (List (List Bs))) : Option ((List Bs)) :=
  if slices1.length ≤ 1000000000 then forL (fun (k : Nat) (x : (List Bs)) (s : Int) => slices_Concat_L_string_string__L1 k x s) (fun (s : Int) => slices_Concat_L_string_string__E1 slices1 s) 0 slices1 0 else none
noncomputable def slices_IndexFunc_L_string_string__L1 (p1 : Bs → Option (Bool)) (k2 : Nat) (x5 : Bs) : Option (Unit ⊕ (Int)) :=
  (p1 x5).bind fun (r8 : Bool) => if r8 then (some (.inr (k2 : Int))) else (some (.inl ()))
noncomputable def slices_IndexFunc_L_string_string__E1 : Option (Int) :=
  some (-1)
noncomputable def m_slices_IndexFunc_L_string_string_ (s1 : (List Bs)) (p1 : Bs → Option (Bool)) : Option (Int) :=
  if s1.length ≤ 1000000000 then forL (fun (k : Nat) (x : Bs) (s : Unit) => slices_IndexFunc_L_string_string__L1 p1 k x) (fun (s : Unit) => slices_IndexFunc_L_string_string__E1) 0 s1 () else none
noncomputable def slices_DeleteFunc_L_string_string__J3 (j6 : Int) (i17 : Int) (s18 : (List Bs)) : Option ((Int × Int × (List Bs)) ⊕ ((List Bs))) :=
  some (.inl (i17, wr (j6 + 1), s18))
noncomputable def slices_DeleteFunc_L_string_string__J1 (i19 : Int) (s20 : (List Bs)) : Option ((List Bs)) :=
  if (0 : Int) ≤ i19 ∧ i19 < (s20.length : Int) then (if (0 : Int) ≤ i19 ∧ i19 ≤ ((s20.take i19.toNat ++ List.replicate (s20.length - i19.toNat) []).length : Int) then (some ((s20.take i19.toNat ++ List.replicate (s20.length - i19.toNat) []).take i19.toNat)) else none) else none
noncomputable def slices_DeleteFunc_L_string_string__L2 (p1 : Bs → Option (Bool)) (i5 : Int) (j6 : Int) (l7 : (List Bs)) : Option ((Int × Int × (List Bs)) ⊕ ((List Bs))) :=
  if decide (j6 < (l7.length : Int)) then ((at? l7 j6).bind fun (x10 : Bs) => (p1 x10).bind fun (r12 : Bool) => if !r12 then ((at? l7 i5).bind fun (x15 : Bs) => slices_DeleteFunc_L_string_string__J3 j6 (wr (i5 + 1)) (l7.set i5.toNat x10)) else (slices_DeleteFunc_L_string_string__J3 j6 i5 l7)) else (Option.map .inr (slices_DeleteFunc_L_string_string__J1 i5 l7))
noncomputable def m_slices_DeleteFunc_L_string_string_ (s1 : (List Bs)) (p1 : Bs → Option (Bool)) : Option ((List Bs)) :=
  (m_slices_IndexFunc_L_string_string_ s1 p1).bind fun (r2 : (Int)) => if decide (r2 = (-1)) then some s1 else (iter (fun (s : Int × Int × (List Bs)) => slices_DeleteFunc_L_string_string__L2 p1 s.1 s.2.1 s.2.2) (r2, wr (r2 + 1), s1))
noncomputable def m_message_joined_1 (v1 : Bs) : Option (Bool) :=
  some (decide (v1 = []))
noncomputable def m_message_joined (l1 : (List Bs)) (s2 : Bs) : Option (Bs) :=
  (m_slices_Clone l1).bind fun (r3 : ((List Bs))) => if r3.length + 1 ≤ 1000000000 then ((m_slices_DeleteFunc_L_string_string_ (r3 ++ [s2]) (fun (a0 : Bs) => m_message_joined_1 a0)).bind fun (r6 : ((List Bs))) => (m_strings_Join r6 [44, 32]).bind fun (r8 : (Bs)) => some r8) else none
noncomputable def message_set_J2 (out12 : (List S_api_Header)) : Option ((List S_api_Header)) :=
  some out12
noncomputable def message_set_J3 (done21 : Bool) (out22 : (List S_api_Header)) : Option ((Bool × (List S_api_Header)) ⊕ ((List S_api_Header))) :=
  some (.inl (done21, out22))
noncomputable def message_set_L1 (name2 : Bs) (value3 : Bs) (k6 : Nat) (x9 : S_api_Header) (done4 : Bool) (l5 : (List S_api_Header)) : Option ((Bool × (List S_api_Header)) ⊕ ((List S_api_Header))) :=
  (m_message_isNamed x9 name2).bind fun (r15 : (Bool)) => if !r15 then (if l5.length + 1 ≤ 1000000000 then (message_set_J3 done4 (l5 ++ [x9])) else none) else (if !done4 then (if l5.length + 1 ≤ 1000000000 then (message_set_J3 true (l5 ++ [(S_api_Header.mk x9.Name value3)])) else none) else (message_set_J3 done4 l5))
noncomputable def message_set_E1 (name2 : Bs) (value3 : Bs) (done4 : Bool) (l5 : (List S_api_Header)) : Option ((List S_api_Header)) :=
  if !done4 then (if l5.length + 1 ≤ 1000000000 then (message_set_J2 (l5 ++ [(S_api_Header.mk name2 value3)])) else none) else (message_set_J2 l5)
noncomputable def m_message_set (l1 : (List S_api_Header)) (name2 : Bs) (value3 : Bs) : Option ((List S_api_Header)) :=
  if l1.length ≤ 1000000000 then forL (fun (k : Nat) (x : S_api_Header) (s : Bool × (List S_api_Header)) => message_set_L1 name2 value3 k x s.1 s.2) (fun (s : Bool × (List S_api_Header)) => message_set_E1 name2 value3 s.1 s.2) 0 l1 (false, []) else none
noncomputable def slices_IndexFunc_L_api_Header_api_Header__L1 (p1 : S_api_Header → Option (Bool)) (k2 : Nat) (x5 : S_api_Header) : Option (Unit ⊕ (Int)) :=
  (p1 x5).bind fun (r8 : Bool) => if r8 then (some (.inr (k2 : Int))) else (some (.inl ()))
noncomputable def slices_IndexFunc_L_api_Header_api_Header__E1 : Option (Int) :=
  some (-1)
noncomputable def m_slices_IndexFunc_L_api_Header_api_Header_ (s1 : (List S_api_Header)) (p1 : S_api_Header → Option (Bool)) : Option (Int) :=
  if s1.length ≤ 1000000000 then forL (fun (k : Nat) (x : S_api_Header) (s : Unit) => slices_IndexFunc_L_api_Header_api_Header__L1 p1 k x) (fun (s : Unit) => slices_IndexFunc_L_api_Header_api_Header__E1) 0 s1 () else none
noncomputable def m_slices_ContainsFunc_L_api_Header_api_Header_ (s1 : (List S_api_Header)) (p1 : S_api_Header → Option (Bool)) : Option (Bool) :=
  (m_slices_IndexFunc_L_api_Header_api_Header_ s1 p1).bind fun (r2 : (Int)) => some (decide (0 ≤ r2))
noncomputable def m_message_Forward_1 (h1 : S_api_Header) : Option (Bool) :=
  some (decide (2000 < (h1.Value.length : Int)))
noncomputable def slices_DeleteFunc_L_api_Header_api_Header__J3 (j6 : Int) (i17 : Int) (s18 : (List S_api_Header)) : Option ((Int × Int × (List S_api_Header)) ⊕ ((List S_api_Header))) :=
  some (.inl (i17, wr (j6 + 1), s18))
noncomputable def slices_DeleteFunc_L_api_Header_api_Header__J1 (i19 : Int) (s20 : (List S_api_Header)) : Option ((List S_api_Header)) :=
  if (0 : Int) ≤ i19 ∧ i19 < (s20.length : Int) then (if (0 : Int) ≤ i19 ∧ i19 ≤ ((s20.take i19.toNat ++ List.replicate (s20.length - i19.toNat) (S_api_Header.mk [] [])).length : Int) then (some ((s20.take i19.toNat ++ List.replicate (s20.length - i19.toNat) (S_api_Header.mk [] [])).take i19.toNat)) else none) else none
noncomputable def slices_DeleteFunc_L_api_Header_api_Header__L2 (p1 : S_api_Header → Option (Bool)) (i5 : Int) (j6 : Int) (l7 : (List S_api_Header)) : Option ((Int × Int × (List S_api_Header)) ⊕ ((List S_api_Header))) :=
  if decide (j6 < (l7.length : Int)) then ((at? l7 j6).bind fun (x10 : S_api_Header) => (p1 x10).bind fun (r12 : Bool) => if !r12 then ((at? l7 i5).bind fun (x15 : S_api_Header) => slices_DeleteFunc_L_api_Header_api_Header__J3 j6 (wr (i5 + 1)) (l7.set i5.toNat x10)) else (slices_DeleteFunc_L_api_Header_api_Header__J3 j6 i5 l7)) else (Option.map .inr (slices_DeleteFunc_L_api_Header_api_Header__J1 i5 l7))
noncomputable def m_slices_DeleteFunc_L_api_Header_api_Header_ (s1 : (List S_api_Header)) (p1 : S_api_Header → Option (Bool)) : Option ((List S_api_Header)) :=
  (m_slices_IndexFunc_L_api_Header_api_Header_ s1 p1).bind fun (r2 : (Int)) => if decide (r2 = (-1)) then some s1 else (iter (fun (s : Int × Int × (List S_api_Header)) => slices_DeleteFunc_L_api_Header_api_Header__L2 p1 s.1 s.2.1 s.2.2) (r2, wr (r2 + 1), s1))
noncomputable def m_message_without_1 (h1 : S_api_Header) (c2 : Bs) : Option (Bool) :=
  (m_message_isNamed h1 c2).bind fun (r3 : (Bool)) => some r3
noncomputable def m_message_without (l1 : (List S_api_Header)) (name2 : Bs) : Option ((List S_api_Header)) :=
  (m_slices_Clone l1).bind fun (r3 : ((List S_api_Header))) => (m_slices_DeleteFunc_L_api_Header_api_Header_ r3 (fun (a0 : S_api_Header) => m_message_without_1 a0 name2)).bind fun (r5 : ((List S_api_Header))) => some r5
noncomputable def message_Forward_J4 (v1 : S_api_Request) (r50 : ((List S_api_Header))) (v57 : Bool) : Option (S_api_Request × Int) :=
  if v57 then (some ((S_api_Request.mk 0 [] [] [] [] [] [] []), 2)) else (some ((S_api_Request.mk v1.At v1.Method v1.Host v1.Path v1.Query v1.From r50 v1.Body), 0))
noncomputable def message_Forward_J3 (v1 : S_api_Request) (v2 : Bs) (v45 : (List S_api_Header)) : Option (S_api_Request × Int) :=
  (m_message_Values v45 [118, 105, 97]).bind fun (r46 : ((List Bs))) => (m_message_joined r46 v2).bind fun (r48 : (Bs)) => (m_message_set v45 [118, 105, 97] r48).bind fun (r50 : ((List S_api_Header))) => if decide (50 < (r50.length : Int)) then (message_Forward_J4 v1 r50 true) else ((m_slices_ContainsFunc_L_api_Header_api_Header_ r50 (fun (a0 : S_api_Header) => m_message_Forward_1 a0)).bind fun (r54 : (Bool)) => message_Forward_J4 v1 r50 r54)
noncomputable def message_Forward_J2 (v1 : S_api_Request) (v2 : Bs) (v39 : (List S_api_Header)) : Option (S_api_Request × Int) :=
  (m_message_Values v39 [120, 45, 102, 111, 114, 119, 97, 114, 100, 101, 100, 45, 104, 111, 115, 116]).bind fun (r40 : ((List Bs))) => if decide ((r40.length : Int) = 0) then ((m_message_set v39 [120, 45, 102, 111, 114, 119, 97, 114, 100, 101, 100, 45, 104, 111, 115, 116] v1.Host).bind fun (r43 : ((List S_api_Header))) => message_Forward_J3 v1 v2 r43) else (message_Forward_J3 v1 v2 v39)
noncomputable def message_Forward_L1 (k28 : Nat) (x31 : Bs) (v27 : (List S_api_Header)) : Option ((List S_api_Header) ⊕ (S_api_Request × Int)) :=
  (m_message_without v27 x31).bind fun (r61 : ((List S_api_Header))) => some (.inl r61)
noncomputable def message_Forward_E1 (v1 : S_api_Request) (v2 : Bs) (v27 : (List S_api_Header)) : Option (S_api_Request × Int) :=
  (m_message_Values v27 [120, 45, 102, 111, 114, 119, 97, 114, 100, 101, 100, 45, 102, 111, 114]).bind fun (r32 : ((List Bs))) => (m_message_joined r32 v1.From).bind fun (r34 : (Bs)) => if decide (r34 ≠ []) then ((m_message_set v27 [120, 45, 102, 111, 114, 119, 97, 114, 100, 101, 100, 45, 102, 111, 114] r34).bind fun (r37 : ((List S_api_Header))) => message_Forward_J2 v1 v2 r37) else (message_Forward_J2 v1 v2 v27)
noncomputable def m_message_Forward (v1 : S_api_Request) (v2 : Bs) : Option (S_api_Request × Int) :=
  (m_message_CheckRequest v1).bind fun (r3 : (Int)) => if decide (r3 ≠ 0) then (some ((S_api_Request.mk 0 [] [] [] [] [] [] []), r3)) else ((m_message_IsToken v2).bind fun (r6 : (Bool)) => if !r6 then (some ((S_api_Request.mk 0 [] [] [] [] [] [] []), 5)) else ((m_message_Values v1.Headers [118, 105, 97]).bind fun (r9 : ((List Bs))) => (m_message_Parts r9).bind fun (r11 : ((List Bs))) => (m_slices_Contains_L_string_string_ r11 v2).bind fun (r13 : (Bool)) => if r13 then (some ((S_api_Request.mk 0 [] [] [] [] [] [] []), 14)) else (if decide (20 ≤ (r11.length : Int)) then (some ((S_api_Request.mk 0 [] [] [] [] [] [] []), 2)) else ((m_slices_Clone v1.Headers).bind fun (r17 : ((List S_api_Header))) => (m_message_hopNames ).bind fun (r19 : ((List Bs))) => (m_message_Values v1.Headers [99, 111, 110, 110, 101, 99, 116, 105, 111, 110]).bind fun (r21 : ((List Bs))) => (m_message_Parts r21).bind fun (r23 : ((List Bs))) => (m_slices_Concat_L_string_string_ [r19, r23]).bind fun (r25 : ((List Bs))) => if r25.length ≤ 1000000000 then forL (fun (k : Nat) (x : Bs) (s : (List S_api_Header)) => message_Forward_L1 k x s) (fun (s : (List S_api_Header)) => message_Forward_E1 v1 v2 s) 0 r25 r17 else none))))
noncomputable def m_gateref2_in (n1 : Int) (low2 : Int) (high3 : Int) : Option (Bool) :=
  some ((decide (low2 ≤ n1)) && (decide (n1 ≤ high3)))
noncomputable def m_gateref2_Moment (v1 : Int) : Option (Bool) :=
  (m_gateref2_in v1 0 345686399999).bind fun (r2 : (Bool)) => some r2
noncomputable def gateref2_only_L1 (some2 : Bs) (k3 : Nat) (x6 : UInt8) : Option (Unit ⊕ (Bool)) :=
  (m_strings_IndexByte some2 (x6.toNat : Int)).bind fun (r9 : (Int)) => if decide (r9 < 0) then (some (.inr false)) else (some (.inl ()))
noncomputable def gateref2_only_E1 : Option (Bool) :=
  some true
noncomputable def m_gateref2_only (s1 : Bs) (some2 : Bs) : Option (Bool) :=
  if s1.length ≤ 1000000000 then forL (fun (k : Nat) (x : UInt8) (s : Unit) => gateref2_only_L1 some2 k x) (fun (s : Unit) => gateref2_only_E1) 0 s1 () else none
noncomputable def gateref2_Token_J1 (v9 : Bool) : Option (Bool) :=
  some v9
noncomputable def m_gateref2_Token (s1 : Bs) : Option (Bool) :=
  (m_gateref2_in (s1.length : Int) 1 100).bind fun (r2 : (Bool)) => if r2 then ((m_gateref2_only s1 [97, 98, 99, 100, 101, 102, 103, 104, 105, 106, 107, 108, 109, 110, 111, 112, 113, 114, 115, 116, 117, 118, 119, 120, 121, 122, 65, 66, 67, 68, 69, 70, 71, 72, 73, 74, 75, 76, 77, 78, 79, 80, 81, 82, 83, 84, 85, 86, 87, 88, 89, 90, 48, 49, 50, 51, 52, 53, 54, 55, 56, 57, 33, 35, 36, 37, 38, 39, 42, 43, 45, 46, 94, 95, 96, 124, 126]).bind fun (r6 : (Bool)) => gateref2_Token_J1 r6) else (gateref2_Token_J1 false)
noncomputable def gateref2_Number_J2 (r15 : (Int × Int)) (v22 : Bool) : Option (Int × Bool) :=
  some (r15.1, v22)
noncomputable def gateref2_Number_J1 (s1 : Bs) (v13 : Bool) : Option (Int × Bool) :=
  if v13 then (some (0, false)) else ((m_strconv_Atoi s1).bind fun (r15 : (Int × Int)) => if decide (r15.2 = 0) then ((m_strconv_Itoa r15.1).bind fun (r19 : (Bs)) => gateref2_Number_J2 r15 (decide (r19 = s1))) else (gateref2_Number_J2 r15 false))
noncomputable def m_gateref2_Number (s1 : Bs) (most2 : Int) : Option (Int × Bool) :=
  (m_strings_TrimPrefix s1 [45]).bind fun (r3 : (Bs)) => if decide (r3 = []) then (gateref2_Number_J1 s1 true) else (if decide (most2 < (r3.length : Int)) then (gateref2_Number_J1 s1 true) else ((m_gateref2_only r3 [48, 49, 50, 51, 52, 53, 54, 55, 56, 57]).bind fun (r9 : (Bool)) => gateref2_Number_J1 s1 (!r9)))
noncomputable def gateref2_HostOf_J3 (v30 : Bs) : Option (Bs × Int) :=
  some (v30, 0)
noncomputable def gateref2_HostOf_J4 (v45 : Bool) : Option (Unit ⊕ (Bs × Int)) :=
  if v45 then (some (.inr ([], 3))) else (some (.inl ()))
noncomputable def gateref2_HostOf_L2 (k21 : Nat) (x24 : Bs) : Option (Unit ⊕ (Bs × Int)) :=
  (m_gateref2_in (x24.length : Int) 1 63).bind fun (r33 : (Bool)) => if !r33 then (gateref2_HostOf_J4 true) else ((m_gateref2_only x24 [97, 98, 99, 100, 101, 102, 103, 104, 105, 106, 107, 108, 109, 110, 111, 112, 113, 114, 115, 116, 117, 118, 119, 120, 121, 122, 65, 66, 67, 68, 69, 70, 71, 72, 73, 74, 75, 76, 77, 78, 79, 80, 81, 82, 83, 84, 85, 86, 87, 88, 89, 90, 48, 49, 50, 51, 52, 53, 54, 55, 56, 57, 45]).bind fun (r37 : (Bool)) => if !r37 then (gateref2_HostOf_J4 true) else ((m_strings_Trim x24 [45]).bind fun (r41 : (Bs)) => gateref2_HostOf_J4 (decide (r41 ≠ x24))))
noncomputable def gateref2_HostOf_E2 (r2 : (Bs × Bs × Bool)) (r4 : (Int × Bool)) : Option (Bs × Int) :=
  (m_strings_ToLower r2.1).bind fun (r25 : (Bs)) => if ((r2.2.2 && (decide (r4.1 ≠ 80))) && (decide (r4.1 ≠ 443))) then (if [58].length + r2.2.1.length ≤ 1000000000 then (if r25.length + ([58] ++ r2.2.1).length ≤ 1000000000 then (gateref2_HostOf_J3 (r25 ++ ([58] ++ r2.2.1))) else none) else none) else (gateref2_HostOf_J3 r25)
noncomputable def gateref2_HostOf_J1 (r2 : (Bs × Bs × Bool)) (r4 : (Int × Bool)) (v17 : Bool) : Option (Bs × Int) :=
  if v17 then (some ([], 3)) else ((m_strings_Split r2.1 [46]).bind fun (r19 : ((List Bs))) => if r19.length ≤ 1000000000 then forL (fun (k : Nat) (x : Bs) (s : Unit) => gateref2_HostOf_L2 k x) (fun (s : Unit) => gateref2_HostOf_E2 r2 r4) 0 r19 () else none)
noncomputable def m_gateref2_HostOf (v1 : Bs) : Option (Bs × Int) :=
  (m_strings_Cut v1 [58]).bind fun (r2 : (Bs × Bs × Bool)) => (m_gateref2_Number r2.2.1 5).bind fun (r4 : (Int × Bool)) => if decide (255 < (v1.length : Int)) then (gateref2_HostOf_J1 r2 r4 true) else (if r2.2.2 then (if !r4.2 then (gateref2_HostOf_J1 r2 r4 true) else ((m_gateref2_in r4.1 1 65535).bind fun (r12 : (Bool)) => gateref2_HostOf_J1 r2 r4 (!r12))) else (gateref2_HostOf_J1 r2 r4 false))
noncomputable def gateref2_visible_J2 (v12 : Bool) : Option (Unit ⊕ (Bool)) :=
  if v12 then (some (.inr false)) else (some (.inl ()))
noncomputable def gateref2_visible_L1 (low2 : Int) (k3 : Nat) (x6 : UInt8) : Option (Unit ⊕ (Bool)) :=
  if decide ((x6.toNat : Int) < low2) then (gateref2_visible_J2 true) else (gateref2_visible_J2 (decide (126 < (x6.toNat : Int))))
noncomputable def gateref2_visible_E1 : Option (Bool) :=
  some true
noncomputable def m_gateref2_visible (s1 : Bs) (low2 : Int) : Option (Bool) :=
  if s1.length ≤ 1000000000 then forL (fun (k : Nat) (x : UInt8) (s : Unit) => gateref2_visible_L1 low2 k x) (fun (s : Unit) => gateref2_visible_E1) 0 s1 () else none
noncomputable def gateref2_pathForm_J1 (v19 : Bool) : Option (Bool) :=
  some v19
noncomputable def m_gateref2_pathForm (s1 : Bs) : Option (Bool) :=
  (m_gateref2_in (s1.length : Int) 1 1000).bind fun (r2 : (Bool)) => if r2 then ((s1[0]?).bind fun (x6 : UInt8) => if decide ((x6.toNat : Int) = 47) then ((m_gateref2_visible s1 33).bind fun (r10 : (Bool)) => if r10 then ((m_strings_ContainsAny s1 [63, 35]).bind fun (r14 : (Bool)) => gateref2_pathForm_J1 (!r14)) else (gateref2_pathForm_J1 false)) else (gateref2_pathForm_J1 false)) else (gateref2_pathForm_J1 false)
noncomputable def gateref2_queryForm_J1 (v12 : Bool) : Option (Bool) :=
  some v12
noncomputable def m_gateref2_queryForm (s1 : Bs) : Option (Bool) :=
  if decide ((s1.length : Int) ≤ 1000) then ((m_gateref2_visible s1 33).bind fun (r4 : (Bool)) => if r4 then ((m_strings_Contains s1 [35]).bind fun (r8 : (Bool)) => gateref2_queryForm_J1 (!r8)) else (gateref2_queryForm_J1 false)) else (gateref2_queryForm_J1 false)
noncomputable def gateref2_Field_J1 (v12 : Bool) : Option (Bool) :=
  some v12
noncomputable def m_gateref2_Field (s1 : Bs) : Option (Bool) :=
  if decide ((s1.length : Int) ≤ 2000) then ((m_gateref2_visible s1 32).bind fun (r4 : (Bool)) => if r4 then ((m_strings_Trim s1 [32]).bind fun (r8 : (Bs)) => gateref2_Field_J1 (decide (r8 = s1))) else (gateref2_Field_J1 false)) else (gateref2_Field_J1 false)
noncomputable def gateref2_HeadersFault_L1 (k3 : Nat) (x6 : S_api_Header) : Option (Unit ⊕ (Int)) :=
  (m_gateref2_Token x6.Name).bind fun (r9 : (Bool)) => if !r9 then (some (.inr 5)) else ((m_gateref2_Field x6.Value).bind fun (r12 : (Bool)) => if !r12 then (some (.inr 3)) else (some (.inl ())))
noncomputable def gateref2_HeadersFault_E1 : Option (Int) :=
  some 0
noncomputable def m_gateref2_HeadersFault (l1 : (List S_api_Header)) : Option (Int) :=
  if decide (50 < (l1.length : Int)) then some 2 else (if l1.length ≤ 1000000000 then forL (fun (k : Nat) (x : S_api_Header) (s : Unit) => gateref2_HeadersFault_L1 k x) (fun (s : Unit) => gateref2_HeadersFault_E1) 0 l1 () else none)
noncomputable def gateref2_RequestFault_J1 (r1 : S_api_Request) (v23 : Bool) : Option (Int) :=
  if v23 then some 3 else ((m_gateref2_HeadersFault r1.Headers).bind fun (r25 : (Int)) => if decide (r25 ≠ 0) then some r25 else (if decide (20000 < (r1.Body.length : Int)) then some 2 else some 0))
noncomputable def m_gateref2_RequestFault (r1 : S_api_Request) : Option (Int) :=
  (m_gateref2_Moment r1.At).bind fun (r2 : (Bool)) => if !r2 then some 1 else ((m_gateref2_Token r1.Method).bind fun (r5 : (Bool)) => if !r5 then some 5 else ((m_gateref2_HostOf r1.Host).bind fun (r8 : (Bs × Int)) => if decide (r8.2 ≠ 0) then some r8.2 else ((m_gateref2_pathForm r1.Path).bind fun (r11 : (Bool)) => if !r11 then (gateref2_RequestFault_J1 r1 true) else ((m_gateref2_queryForm r1.Query).bind fun (r15 : (Bool)) => if !r15 then (gateref2_RequestFault_J1 r1 true) else ((m_gateref2_Field r1.From).bind fun (r19 : (Bool)) => gateref2_RequestFault_J1 r1 (!r19))))))
noncomputable def m_gateref2_alike (a1 : Bs) (b2 : Bs) : Option (Bool) :=
  (m_strings_ToLower a1).bind fun (r3 : (Bs)) => (m_strings_ToLower b2).bind fun (r5 : (Bs)) => some (decide (r3 = r5))
noncomputable def gateref2_Values_J2 (out14 : (List Bs)) : Option ((List Bs) ⊕ ((List Bs))) :=
  some (.inl out14)
noncomputable def gateref2_Values_L1 (name2 : Bs) (k4 : Nat) (x7 : S_api_Header) (l3 : (List Bs)) : Option ((List Bs) ⊕ ((List Bs))) :=
  (m_gateref2_alike x7.Name name2).bind fun (r10 : (Bool)) => if r10 then (if l3.length + 1 ≤ 1000000000 then (gateref2_Values_J2 (l3 ++ [x7.Value])) else none) else (gateref2_Values_J2 l3)
noncomputable def gateref2_Values_E1 (l3 : (List Bs)) : Option ((List Bs)) :=
  some l3
noncomputable def m_gateref2_Values (l1 : (List S_api_Header)) (name2 : Bs) : Option ((List Bs)) :=
  if l1.length ≤ 1000000000 then forL (fun (k : Nat) (x : S_api_Header) (s : (List Bs)) => gateref2_Values_L1 name2 k x s) (fun (s : (List Bs)) => gateref2_Values_E1 s) 0 l1 [] else none
noncomputable def gateref2_parts_J2 (out17 : (List Bs)) : Option ((List Bs) ⊕ ((List Bs))) :=
  some (.inl out17)
noncomputable def gateref2_parts_L1 (k7 : Nat) (x10 : Bs) (l6 : (List Bs)) : Option ((List Bs) ⊕ ((List Bs))) :=
  (m_strings_Trim x10 [32]).bind fun (r13 : (Bs)) => if decide (r13 ≠ []) then (if l6.length + 1 ≤ 1000000000 then (gateref2_parts_J2 (l6 ++ [r13])) else none) else (gateref2_parts_J2 l6)
noncomputable def gateref2_parts_E1 (l6 : (List Bs)) : Option ((List Bs)) :=
  some l6
noncomputable def m_gateref2_parts (values1 : (List Bs)) : Option ((List Bs)) :=
  (m_strings_Join values1 [44]).bind fun (r2 : (Bs)) => (m_strings_Split r2 [44]).bind fun (r4 : ((List Bs))) => if r4.length ≤ 1000000000 then forL (fun (k : Nat) (x : Bs) (s : (List Bs)) => gateref2_parts_L1 k x s) (fun (s : (List Bs)) => gateref2_parts_E1 s) 0 r4 [] else none
noncomputable def m_slices_ContainsFunc_L_string_string_ (s1 : (List Bs)) (p1 : Bs → Option (Bool)) : Option (Bool) :=
  (m_slices_IndexFunc_L_string_string_ s1 p1).bind fun (r2 : (Int)) => some (decide (0 ≤ r2))
noncomputable def m_gateref2_ForwardOf_1_1 (g1 : Bs) (c2 : S_api_Header) : Option (Bool) :=
  (m_gateref2_alike g1 c2.Name).bind fun (r3 : (Bool)) => some r3
noncomputable def m_gateref2_ForwardOf_1 (h1 : S_api_Header) (c2 : (List Bs)) : Option (Bool) :=
  (m_slices_ContainsFunc_L_string_string_ c2 (fun (a0 : Bs) => m_gateref2_ForwardOf_1_1 a0 h1)).bind fun (r3 : (Bool)) => some r3
noncomputable def m_gateref2_ForwardOf_2_1 (s1 : Bs) : Option (Bool) :=
  some (decide (s1 = []))
noncomputable def m_gateref2_SetOf_1 (h1 : S_api_Header) (c2 : Bs) : Option (Bool) :=
  (m_gateref2_alike h1.Name c2).bind fun (r3 : (Bool)) => some r3
noncomputable def m_gateref2_Without_1 (h1 : S_api_Header) (c2 : Bs) : Option (Bool) :=
  (m_gateref2_alike h1.Name c2).bind fun (r3 : (Bool)) => some r3
noncomputable def m_gateref2_Without (l1 : (List S_api_Header)) (name2 : Bs) : Option ((List S_api_Header)) :=
  (m_slices_Clone l1).bind fun (r3 : ((List S_api_Header))) => (m_slices_DeleteFunc_L_api_Header_api_Header_ r3 (fun (a0 : S_api_Header) => m_gateref2_Without_1 a0 name2)).bind fun (r5 : ((List S_api_Header))) => some r5
noncomputable def m_gateref2_SetOf (l1 : (List S_api_Header)) (name2 : Bs) (value3 : Bs) : Option ((List S_api_Header)) :=
  (m_slices_IndexFunc_L_api_Header_api_Header_ l1 (fun (a0 : S_api_Header) => m_gateref2_SetOf_1 a0 name2)).bind fun (r4 : (Int)) => if decide (r4 < 0) then ((m_slices_Clone l1).bind fun (r7 : ((List S_api_Header))) => if r7.length + 1 ≤ 1000000000 then (some (r7 ++ [(S_api_Header.mk name2 value3)])) else none) else ((sub? l1 0 r4).bind fun (l10 : (List S_api_Header)) => (m_slices_Clone l10).bind fun (r12 : ((List S_api_Header))) => (at? l1 r4).bind fun (x14 : S_api_Header) => if r12.length + 1 ≤ 1000000000 then ((sub? l1 (wr (r4 + 1)) (l1.length : Int)).bind fun (l17 : (List S_api_Header)) => (m_gateref2_Without l17 name2).bind fun (r19 : ((List S_api_Header))) => if (r12 ++ [(S_api_Header.mk x14.Name value3)]).length + r19.length ≤ 1000000000 then (some ((r12 ++ [(S_api_Header.mk x14.Name value3)]) ++ r19)) else none) else none)
noncomputable def m_gateref2_ForwardOf_2 (name1 : Bs) (value2 : Bs) (c3 : S_api_Request) : Option (S_api_Request) :=
  (m_gateref2_Values c3.Headers name1).bind fun (r4 : ((List Bs))) => if r4.length + 1 ≤ 1000000000 then ((m_slices_DeleteFunc_L_string_string_ (r4 ++ [value2]) (fun (a0 : Bs) => m_gateref2_ForwardOf_2_1 a0)).bind fun (r7 : ((List Bs))) => if decide (0 < (r7.length : Int)) then ((m_strings_Join r7 [44, 32]).bind fun (r10 : (Bs)) => (m_gateref2_SetOf c3.Headers name1 r10).bind fun (r12 : ((List S_api_Header))) => some (S_api_Request.mk c3.At c3.Method c3.Host c3.Path c3.Query c3.From r12 c3.Body)) else some c3) else none
noncomputable def m_gateref2_ForwardOf_3 (h1 : S_api_Header) : Option (Bool) :=
  some (decide (2000 < (h1.Value.length : Int)))
noncomputable def gateref2_ForwardOf_J2 (r41 : (S_api_Request)) (v48 : Bool) : Option (S_api_Request × Int) :=
  if v48 then (some ((S_api_Request.mk 0 [] [] [] [] [] [] []), 2)) else (some (r41, 0))
noncomputable def gateref2_ForwardOf_J1 (v2 : Bs) (c33 : Int) (c34 : Bs) (c35 : Bs) (c36 : Bs) (c37 : Bs) (c38 : Bs) (c39 : (List S_api_Header)) (c40 : Bs) : Option (S_api_Request × Int) :=
  (m_gateref2_ForwardOf_2 [118, 105, 97] v2 (S_api_Request.mk c33 c34 c35 c36 c37 c38 c39 c40)).bind fun (r41 : (S_api_Request)) => if decide (50 < (r41.Headers.length : Int)) then (gateref2_ForwardOf_J2 r41 true) else ((m_slices_ContainsFunc_L_api_Header_api_Header_ r41.Headers (fun (a0 : S_api_Header) => m_gateref2_ForwardOf_3 a0)).bind fun (r45 : (Bool)) => gateref2_ForwardOf_J2 r41 r45)
noncomputable def m_gateref2_ForwardOf (v1 : S_api_Request) (v2 : Bs) : Option (S_api_Request × Int) :=
  (m_gateref2_RequestFault v1).bind fun (r3 : (Int)) => if decide (r3 ≠ 0) then (some ((S_api_Request.mk 0 [] [] [] [] [] [] []), r3)) else ((m_gateref2_Token v2).bind fun (r6 : (Bool)) => if !r6 then (some ((S_api_Request.mk 0 [] [] [] [] [] [] []), 5)) else ((m_gateref2_Values v1.Headers [118, 105, 97]).bind fun (r9 : ((List Bs))) => (m_gateref2_parts r9).bind fun (r11 : ((List Bs))) => (m_slices_Contains_L_string_string_ r11 v2).bind fun (r13 : (Bool)) => if r13 then (some ((S_api_Request.mk 0 [] [] [] [] [] [] []), 14)) else (if decide (20 ≤ (r11.length : Int)) then (some ((S_api_Request.mk 0 [] [] [] [] [] [] []), 2)) else ((m_gateref2_Values v1.Headers [99, 111, 110, 110, 101, 99, 116, 105, 111, 110]).bind fun (r17 : ((List Bs))) => (m_gateref2_parts r17).bind fun (r19 : ((List Bs))) => if ([[99, 111, 110, 110, 101, 99, 116, 105, 111, 110], [107, 101, 101, 112, 45, 97, 108, 105, 118, 101], [116, 101], [116, 114, 97, 105, 108, 101, 114], [117, 112, 103, 114, 97, 100, 101]] : (List Bs)).length + r19.length ≤ 1000000000 then ((m_slices_Clone v1.Headers).bind fun (r22 : ((List S_api_Header))) => (m_slices_DeleteFunc_L_api_Header_api_Header_ r22 (fun (a0 : S_api_Header) => m_gateref2_ForwardOf_1 a0 (([[99, 111, 110, 110, 101, 99, 116, 105, 111, 110], [107, 101, 101, 112, 45, 97, 108, 105, 118, 101], [116, 101], [116, 114, 97, 105, 108, 101, 114], [117, 112, 103, 114, 97, 100, 101]] : (List Bs)) ++ r19))).bind fun (r24 : ((List S_api_Header))) => (m_gateref2_ForwardOf_2 [120, 45, 102, 111, 114, 119, 97, 114, 100, 101, 100, 45, 102, 111, 114] v1.From (S_api_Request.mk v1.At v1.Method v1.Host v1.Path v1.Query v1.From r24 v1.Body)).bind fun (r26 : (S_api_Request)) => (m_gateref2_Values r26.Headers [120, 45, 102, 111, 114, 119, 97, 114, 100, 101, 100, 45, 104, 111, 115, 116]).bind fun (r28 : ((List Bs))) => if decide ((r28.length : Int) = 0) then ((m_gateref2_ForwardOf_2 [120, 45, 102, 111, 114, 119, 97, 114, 100, 101, 100, 45, 104, 111, 115, 116] v1.Host r26).bind fun (r31 : (S_api_Request)) => gateref2_ForwardOf_J1 v2 r31.At r31.Method r31.Host r31.Path r31.Query r31.From r31.Headers r31.Body) else (gateref2_ForwardOf_J1 v2 r26.At r26.Method r26.Host r26.Path r26.Query r26.From r26.Headers r26.Body)) else none))))
noncomputable def message_Client_1_J1 (v7 : Bool) : Option (Bool) :=
  some v7
noncomputable def m_message_Client_1 (s1 : Bs) : Option (Bool) :=
  if decide (s1 = []) then (message_Client_1_J1 true) else ((m_message_IsField s1).bind fun (r4 : (Bool)) => message_Client_1_J1 (!r4))
noncomputable def message_Client_L2 (trusted2 : (List Bs)) (k19 : Nat) (x20 : Bs) : Option (Unit ⊕ (Bs × Int)) :=
  (m_slices_Contains_L_string_string_ trusted2 x20).bind fun (r23 : (Bool)) => if !r23 then (some (.inr (x20, 0))) else (some (.inl ()))
noncomputable def message_Client_E2 (all16 : (List Bs)) : Option (Bs × Int) :=
  if decide ((all16.length : Int) = 0) then (some ([], 0)) else ((all16[0]?).bind fun (x27 : Bs) => some (x27, 0))
noncomputable def message_Client_J1 (trusted2 : (List Bs)) (all16 : (List Bs)) : Option (Bs × Int) :=
  if all16.length ≤ 1000000000 then back (fun (k : Nat) (x : Bs) (s : Unit) => message_Client_L2 trusted2 k x) (fun (s : Unit) => message_Client_E2 all16) all16 all16.length () else none
noncomputable def m_message_Client (r1 : S_api_Request) (trusted2 : (List Bs)) : Option (Bs × Int) :=
  (m_message_CheckRequest r1).bind fun (r3 : (Int)) => if decide (r3 ≠ 0) then (some ([], r3)) else (if decide (50 < (trusted2.length : Int)) then (some ([], 2)) else ((m_slices_ContainsFunc_L_string_string_ trusted2 (fun (a0 : Bs) => m_message_Client_1 a0)).bind fun (r7 : (Bool)) => if r7 then (some ([], 3)) else ((m_message_Values r1.Headers [120, 45, 102, 111, 114, 119, 97, 114, 100, 101, 100, 45, 102, 111, 114]).bind fun (r10 : ((List Bs))) => (m_message_Parts r10).bind fun (r12 : ((List Bs))) => if decide (r1.From ≠ []) then (if r12.length + 1 ≤ 1000000000 then (message_Client_J1 trusted2 (r12 ++ [r1.From])) else none) else (message_Client_J1 trusted2 r12))))
noncomputable def gateref2_ClientOf_L3 (trusted2 : (List Bs)) (k21 : Nat) (x22 : Bs) : Option (Unit ⊕ (Bs × Int)) :=
  (m_slices_Contains_L_string_string_ trusted2 x22).bind fun (r25 : (Bool)) => if !r25 then (some (.inr (x22, 0))) else (some (.inl ()))
noncomputable def gateref2_ClientOf_E3 (l17 : (List Bs)) : Option (Bs × Int) :=
  (l17[0]?).bind fun (x28 : Bs) => some (x28, 0)
noncomputable def gateref2_ClientOf_J2 (trusted2 : (List Bs)) (l17 : (List Bs)) : Option (Bs × Int) :=
  if decide ((l17.length : Int) = 0) then (some ([], 0)) else (if l17.length ≤ 1000000000 then back (fun (k : Nat) (x : Bs) (s : Unit) => gateref2_ClientOf_L3 trusted2 k x) (fun (s : Unit) => gateref2_ClientOf_E3 l17) l17 l17.length () else none)
noncomputable def gateref2_ClientOf_J4 (v37 : Bool) : Option (Unit ⊕ (Bs × Int)) :=
  if v37 then (some (.inr ([], 3))) else (some (.inl ()))
noncomputable def gateref2_ClientOf_L1 (k7 : Nat) (x10 : Bs) : Option (Unit ⊕ (Bs × Int)) :=
  if decide (x10 = []) then (gateref2_ClientOf_J4 true) else ((m_gateref2_Field x10).bind fun (r34 : (Bool)) => gateref2_ClientOf_J4 (!r34))
noncomputable def gateref2_ClientOf_E1 (r1 : S_api_Request) (trusted2 : (List Bs)) : Option (Bs × Int) :=
  (m_gateref2_Values r1.Headers [120, 45, 102, 111, 114, 119, 97, 114, 100, 101, 100, 45, 102, 111, 114]).bind fun (r11 : ((List Bs))) => (m_gateref2_parts r11).bind fun (r13 : ((List Bs))) => if decide (r1.From ≠ []) then (if r13.length + 1 ≤ 1000000000 then (gateref2_ClientOf_J2 trusted2 (r13 ++ [r1.From])) else none) else (gateref2_ClientOf_J2 trusted2 r13)
noncomputable def m_gateref2_ClientOf (r1 : S_api_Request) (trusted2 : (List Bs)) : Option (Bs × Int) :=
  (m_gateref2_RequestFault r1).bind fun (r3 : (Int)) => if decide (r3 ≠ 0) then (some ([], r3)) else (if decide (50 < (trusted2.length : Int)) then (some ([], 2)) else (if trusted2.length ≤ 1000000000 then forL (fun (k : Nat) (x : Bs) (s : Unit) => gateref2_ClientOf_L1 k x) (fun (s : Unit) => gateref2_ClientOf_E1 r1 trusted2) 0 trusted2 () else none))
noncomputable def slices_Equal_L_api_Header_api_Header__L1 (s2 : (List S_api_Header)) (k4 : Nat) (x7 : S_api_Header) : Option (Unit ⊕ (Bool)) :=
  (s2[k4]?).bind fun (x10 : S_api_Header) => if (!((x7.Name == x10.Name) && ((x7.Value == x10.Value) && true))) then (some (.inr false)) else (some (.inl ()))
noncomputable def slices_Equal_L_api_Header_api_Header__E1 : Option (Bool) :=
  some true
noncomputable def m_slices_Equal_L_api_Header_api_Header_ (s1 : (List S_api_Header)) (s2 : (List S_api_Header)) : Option (Bool) :=
  if decide ((s1.length : Int) ≠ (s2.length : Int)) then some false else (if s1.length ≤ 1000000000 then forL (fun (k : Nat) (x : S_api_Header) (s : Unit) => slices_Equal_L_api_Header_api_Header__L1 s2 k x) (fun (s : Unit) => slices_Equal_L_api_Header_api_Header__E1) 0 s1 () else none)
noncomputable def gateref2_SameRequest_J1 (v26 : Bool) : Option (Bool) :=
  some v26
noncomputable def m_gateref2_SameRequest (a1 : S_api_Request) (b2 : S_api_Request) : Option (Bool) :=
  if decide (a1.At = b2.At) then (if decide (a1.Method = b2.Method) then (if decide (a1.Host = b2.Host) then (if decide (a1.Path = b2.Path) then (if decide (a1.Query = b2.Query) then (if decide (a1.From = b2.From) then (if decide (a1.Body = b2.Body) then ((m_slices_Equal_L_api_Header_api_Header_ a1.Headers b2.Headers).bind fun (r17 : (Bool)) => gateref2_SameRequest_J1 r17) else (gateref2_SameRequest_J1 false)) else (gateref2_SameRequest_J1 false)) else (gateref2_SameRequest_J1 false)) else (gateref2_SameRequest_J1 false)) else (gateref2_SameRequest_J1 false)) else (gateref2_SameRequest_J1 false)) else (gateref2_SameRequest_J1 false)
noncomputable def m_strings_Builder_WriteByte (l1 : (List Int)) (c2 : Int) : Option (Int × (List Int)) :=
  if l1.length + 1 ≤ 1000000000 then (some (0, (l1 ++ [c2]))) else none
noncomputable def m_message_isHex (c1 : Int) : Option (Bool) :=
  (m_message_isDigit c1).bind fun (r2 : (Bool)) => some ((r2 || ((decide (97 ≤ c1)) && (decide (c1 ≤ 102)))) || ((decide (65 ≤ c1)) && (decide (c1 ≤ 70))))
noncomputable def message_isUnit_J1 (v17 : Bool) : Option (Bool) :=
  some v17
noncomputable def m_message_isUnit (s1 : Bs) (v2 : Int) : Option (Bool) :=
  if decide ((wr (v2 + 2)) < (s1.length : Int)) then ((at? s1 (wr (v2 + 1))).bind fun (x5 : UInt8) => (m_message_isHex (x5.toNat : Int)).bind fun (r7 : (Bool)) => if r7 then ((at? s1 (wr (v2 + 2))).bind fun (x11 : UInt8) => (m_message_isHex (x11.toNat : Int)).bind fun (r13 : (Bool)) => message_isUnit_J1 r13) else (message_isUnit_J1 false)) else (message_isUnit_J1 false)
noncomputable def m_strconv_ParseUint (s1 : Bs) (base2 : Int) (bitSize3 : Int) : Option (Int × Int) :=
  (m_internal_strconv_ParseUint s1 base2 bitSize3).bind fun (r4 : (Int × Int)) => if decide (r4.2 ≠ 0) then ((m_strconv_toError [80, 97, 114, 115, 101, 85, 105, 110, 116] s1 base2 bitSize3 r4.2).bind fun (r7 : (Int)) => some (r4.1, r7)) else (some (r4.1, 0))
noncomputable def m_message_unit (s1 : Bs) (v2 : Int) : Option (Int) :=
  (sub? s1 (wr (v2 + 1)) (wr (v2 + 3))).bind fun (l3 : Bs) => (m_strconv_ParseUint l3 16 8).bind fun (r5 : (Int × Int)) => if decide (r5.2 ≠ 0) then some 0 else (some (IntKind.wrap .u8 r5.1))
noncomputable def message_isFree_J1 (v14 : Bool) : Option (Bool) :=
  some v14
noncomputable def m_message_isFree (c1 : Int) : Option (Bool) :=
  (m_message_isLetter c1).bind fun (r2 : (Bool)) => if r2 then (message_isFree_J1 true) else ((m_message_isDigit c1).bind fun (r6 : (Bool)) => if r6 then (message_isFree_J1 true) else ((m_strings_IndexByte [45, 46, 95, 126] c1).bind fun (r10 : (Int)) => message_isFree_J1 (decide (0 ≤ r10))))
noncomputable def m_message_percent (c1 : Int) : Option (Bs) :=
  (at? [48, 49, 50, 51, 52, 53, 54, 55, 56, 57, 65, 66, 67, 68, 69, 70] (shr_ .u8 c1 4)).bind fun (x2 : UInt8) => (at? [48, 49, 50, 51, 52, 53, 54, 55, 56, 57, 65, 66, 67, 68, 69, 70] (and_ .u8 c1 15)).bind fun (x4 : UInt8) => some (strN [37, (x2.toNat : Int), (x4.toNat : Int)])
noncomputable def m_strings_Builder_WriteString (l1 : (List Int)) (s2 : Bs) : Option (Int × Int × (List Int)) :=
  if l1.length + s2.length ≤ 1000000000 then (some ((s2.length : Int), 0, (l1 ++ numsB s2))) else none
noncomputable def message_normalUnits_J3 (i26 : Int) (l27 : (List Int)) : Option ((Int × (List Int)) ⊕ (Bs × Bool)) :=
  some (.inl (wr (i26 + 1), l27))
noncomputable def message_normalUnits_J4 (i2 : Int) (l25 : (List Int)) : Option ((Int × (List Int)) ⊕ (Bs × Bool)) :=
  message_normalUnits_J3 (wr (i2 + 2)) l25
noncomputable def message_normalUnits_J1 (l28 : (List Int)) : Option (Bs × Bool) :=
  if byR l28 = true then (some ((strN l28), true)) else none
noncomputable def message_normalUnits_L2 (s1 : Bs) (i2 : Int) (l3 : (List Int)) : Option ((Int × (List Int)) ⊕ (Bs × Bool)) :=
  if decide (i2 < (s1.length : Int)) then ((at? s1 i2).bind fun (x6 : UInt8) => if decide ((x6.toNat : Int) ≠ 37) then ((m_strings_Builder_WriteByte l3 (x6.toNat : Int)).bind fun (r9 : (Int × (List Int))) => message_normalUnits_J3 i2 r9.2) else ((m_message_isUnit s1 i2).bind fun (r11 : (Bool)) => if !r11 then (some (.inr ([], false))) else ((m_message_unit s1 i2).bind fun (r14 : (Int)) => (m_message_isFree r14).bind fun (r16 : (Bool)) => if r16 then ((m_strings_Builder_WriteByte l3 r14).bind fun (r19 : (Int × (List Int))) => message_normalUnits_J4 i2 r19.2) else ((m_message_percent r14).bind fun (r21 : (Bs)) => (m_strings_Builder_WriteString l3 r21).bind fun (r23 : (Int × Int × (List Int))) => message_normalUnits_J4 i2 r23.2.2)))) else (Option.map .inr (message_normalUnits_J1 l3))
noncomputable def m_message_normalUnits (s1 : Bs) : Option (Bs × Bool) :=
  iter (fun (s : Int × (List Int)) => message_normalUnits_L2 s1 s.1 s.2) (0, ([] : List Int))
noncomputable def message_NormalPath_J2 (out29 : (List Bs)) : Option ((List Bs) ⊕ (Bs × Int)) :=
  some (.inl out29)
noncomputable def message_NormalPath_J3 (r10 : ((List Bs))) (k13 : Nat) (out26 : (List Bs)) : Option ((List Bs) ⊕ (Bs × Int)) :=
  if decide ((k13 : Int) = (wr ((r10.length : Int) - 1))) then (if out26.length + 1 ≤ 1000000000 then (message_NormalPath_J2 (out26 ++ ([[]]))) else none) else (message_NormalPath_J2 out26)
noncomputable def message_NormalPath_L1 (r10 : ((List Bs))) (k13 : Nat) (x16 : Bs) (l12 : (List Bs)) : Option ((List Bs) ⊕ (Bs × Int)) :=
  if decide (x16 = [46]) then (message_NormalPath_J3 r10 k13 l12) else (if decide (x16 = [46, 46]) then (if (0 : Int) ≤ (max (wr ((l12.length : Int) - 1)) 0) ∧ (max (wr ((l12.length : Int) - 1)) 0) ≤ (l12.length : Int) then (message_NormalPath_J3 r10 k13 (l12.take (max (wr ((l12.length : Int) - 1)) 0).toNat)) else none) else (if l12.length + 1 ≤ 1000000000 then (message_NormalPath_J2 (l12 ++ [x16])) else none))
noncomputable def message_NormalPath_E1 (l12 : (List Bs)) : Option (Bs × Int) :=
  (m_strings_Join l12 [47]).bind fun (r17 : (Bs)) => if [47].length + r17.length ≤ 1000000000 then (some (([47] ++ r17), 0)) else none
noncomputable def m_message_NormalPath (s1 : Bs) : Option (Bs × Int) :=
  (m_message_PathFault s1).bind fun (r2 : (Int)) => if decide (r2 ≠ 0) then (some ([], r2)) else ((m_message_normalUnits s1).bind fun (r5 : (Bs × Bool)) => if !r5.2 then (some ([], 9)) else ((sub? r5.1 1 (r5.1.length : Int)).bind fun (l8 : Bs) => (m_strings_Split l8 [47]).bind fun (r10 : ((List Bs))) => if r10.length ≤ 1000000000 then forL (fun (k : Nat) (x : Bs) (s : (List Bs)) => message_NormalPath_L1 r10 k x s) (fun (s : (List Bs)) => message_NormalPath_E1 s) 0 r10 [] else none))
noncomputable def m_gatelaw2_spoken  : Option (Bool) :=
  (m_message_NormalPath [47, 97, 47, 46, 46, 47, 98]).bind fun (r1 : (Bs × Int)) => some ((decide (r1.2 = 0)) && (decide (r1.1 = [47, 98])))
noncomputable def gatelaw2_RequestsForwarded_J3 (v45 : Bool) : Option (Bool) :=
  some v45
noncomputable def gatelaw2_RequestsForwarded_J2 (r2 : (S_api_Request × S_gatemake_Stream)) (r4 : (Bs × S_gatemake_Stream)) (v20 : (List Bs)) : Option (Bool) :=
  (m_message_Forward r2.1 r4.1).bind fun (r21 : (S_api_Request × Int)) => (m_gateref2_ForwardOf r2.1 r4.1).bind fun (r23 : (S_api_Request × Int)) => (m_message_Client r2.1 v20).bind fun (r25 : (Bs × Int)) => (m_gateref2_ClientOf r2.1 v20).bind fun (r27 : (Bs × Int)) => (m_gateref2_SameRequest r21.1 r23.1).bind fun (r29 : (Bool)) => if r29 then (if decide (r21.2 = r23.2) then (if decide (r25.1 = r27.1) then (if decide (r25.2 = r27.2) then ((m_gatelaw2_spoken ).bind fun (r39 : (Bool)) => gatelaw2_RequestsForwarded_J3 r39) else (gatelaw2_RequestsForwarded_J3 false)) else (gatelaw2_RequestsForwarded_J3 false)) else (gatelaw2_RequestsForwarded_J3 false)) else (gatelaw2_RequestsForwarded_J3 false)
noncomputable def gatelaw2_RequestsForwarded_L1 (k11 : Nat) (c8 : (List Int)) (c9 : Int) (l10 : (List Bs)) : Option (((List Int) × Int × (List Bs)) ⊕ (Bool)) :=
  (m_gatemake_Stream_Some (S_gatemake_Stream.mk c8 c9) ([[49, 48, 46, 48, 46, 48, 46, 49], [57, 46, 57, 46, 57, 46, 57], [53, 46, 54, 46, 55, 46, 56], [49, 46, 50, 46, 51, 46, 52]])).bind fun (r47 : (Bs × S_gatemake_Stream)) => if l10.length + 1 ≤ 1000000000 then (some (.inl (r47.2.L, r47.2.at_, (l10 ++ [r47.1])))) else none
noncomputable def gatelaw2_RequestsForwarded_E1 (r2 : (S_api_Request × S_gatemake_Stream)) (r4 : (Bs × S_gatemake_Stream)) (c8 : (List Int)) (c9 : Int) (l10 : (List Bs)) : Option (Bool) :=
  (m_gatemake_Stream_Flip (S_gatemake_Stream.mk c8 c9) 15).bind fun (r14 : (Bool × S_gatemake_Stream)) => if r14.1 then ((m_gatemake_Stream_Some r14.2 ([[], [32, 120]])).bind fun (r17 : (Bs × S_gatemake_Stream)) => if l10.length + 1 ≤ 1000000000 then (gatelaw2_RequestsForwarded_J2 r2 r4 (l10 ++ [r17.1])) else none) else (gatelaw2_RequestsForwarded_J2 r2 r4 l10)
noncomputable def m_gatelaw2_RequestsForwarded (v1 : (List Int)) : Option (Bool) :=
  (m_gatemake_Stream_Request (S_gatemake_Stream.mk v1 0)).bind fun (r2 : (S_api_Request × S_gatemake_Stream)) => (m_gatemake_Stream_Some r2.2 ([[103, 119], [103, 119], [103, 119, 50], [98], [], [97, 32, 98]])).bind fun (r4 : (Bs × S_gatemake_Stream)) => (m_gatemake_Stream_Range r4.2 0 3).bind fun (r6 : (Int × S_gatemake_Stream)) => if r6.1 ≤ 1000000000 then rng (fun (k : Nat) (s : (List Int) × Int × (List Bs)) => gatelaw2_RequestsForwarded_L1 k s.1 s.2.1 s.2.2) (fun (s : (List Int) × Int × (List Bs)) => gatelaw2_RequestsForwarded_E1 r2 r4 s.1 s.2.1 s.2.2) r6.1.toNat 0 (r6.2.L, r6.2.at_, []) else none
end Go.Proofs.YtgjfcdcpiamikaaGreatDoor
