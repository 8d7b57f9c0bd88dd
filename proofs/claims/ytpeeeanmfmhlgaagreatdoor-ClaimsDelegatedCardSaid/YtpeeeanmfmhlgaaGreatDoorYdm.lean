/- Plain models of functions. Printed by a program. -/
import Derived.Test.YtpeeeanmfmhlgaaGreatDoorMc
namespace Go.Proofs.YtpeeeanmfmhlgaaGreatDoor
set_option linter.unusedVariables false
set_option maxRecDepth 20000
structure S_gatemake_Stream where
  L : (List Int)
  at_ : Int
structure S_api_Claims where
  Id : Bs
  Subject : Bs
  Issuer : Bs
  Parent : Bs
  Audience : (List Bs)
  Scopes : (List Bs)
  From : Int
  To : Int
structure S_api_Window where
  From : Int
  To : Int
noncomputable def gatemake_Below_J1 (x6 : Int) : Option (Int) :=
  some x6
noncomputable def m_gatemake_Below (x1 : Int) (n2 : Int) : Option (Int) :=
  if decide (n2 < 1) then some 0 else (if n2 ≠ 0 then (if decide ((Int.tmod x1 n2) < 0) then (gatemake_Below_J1 (wr ((Int.tmod x1 n2) + n2))) else (gatemake_Below_J1 (Int.tmod x1 n2))) else none)
noncomputable def m_gatemake_Stream_Next (s1 : S_gatemake_Stream) (n2 : Int) : Option (Int × S_gatemake_Stream) :=
  if decide ((s1.L.length : Int) = 0) then ((m_gatemake_Below (wr ((wr (s1.at_ + 1)) * 7919)) n2).bind fun (r4 : (Int)) => some (r4, (S_gatemake_Stream.mk s1.L (wr (s1.at_ + 1))))) else (if (s1.L.length : Int) ≠ 0 then (if ((0 : Int) ≤ (wr ((wr (s1.at_ + 1)) - 1)) ∧ (wr ((wr (s1.at_ + 1)) - 1)) ≤ 9223372036854775807) ∧ (0 : Int) < (s1.L.length : Int) then ((at? s1.L (Int.tmod (wr ((wr (s1.at_ + 1)) - 1)) (s1.L.length : Int))).bind fun (x8 : Int) => (m_gatemake_Below x8 1073741824).bind fun (r10 : (Int)) => (m_gatemake_Below (wr (r10 + (wr (((wr ((wr (s1.at_ + 1)) - 1)) / (s1.L.length : Int)) * (wr (7919 + (Int.tmod (wr ((wr (s1.at_ + 1)) - 1)) (s1.L.length : Int)))))))) n2).bind fun (r12 : (Int)) => some (r12, (S_gatemake_Stream.mk s1.L (wr (s1.at_ + 1))))) else none) else none)
noncomputable def m_gatemake_Stream_Some (s1 : S_gatemake_Stream) (l2 : (List Bs)) : Option (Bs × S_gatemake_Stream) :=
  (m_gatemake_Stream_Next s1 (l2.length : Int)).bind fun (r3 : (Int × S_gatemake_Stream)) => (at? l2 r3.1).bind fun (x5 : Bs) => some (x5, r3.2)
noncomputable def m_gatemake_Stream_Range (s1 : S_gatemake_Stream) (low2 : Int) (high3 : Int) : Option (Int × S_gatemake_Stream) :=
  if decide (high3 < low2) then (some (low2, s1)) else ((m_gatemake_Stream_Next s1 (wr ((wr (high3 - low2)) + 1))).bind fun (r5 : (Int × S_gatemake_Stream)) => some (wr (low2 + r5.1), r5.2))
noncomputable def gatemake_Stream_RightScopes_L1 (k7 : Nat) (c4 : (List Int)) (c5 : Int) (l6 : (List Bs)) : Option (((List Int) × Int × (List Bs)) ⊕ ((List Bs) × S_gatemake_Stream)) :=
  (m_gatemake_Stream_Some (S_gatemake_Stream.mk c4 c5) ([[97], [97, 58, 42], [97, 58, 98], [97, 58, 98, 58, 42], [97, 58, 98, 58, 99], [98], [98, 58, 42], [98, 58, 99], [42]])).bind fun (r11 : (Bs × S_gatemake_Stream)) => if l6.length + 1 ≤ 1000000000 then (some (.inl (r11.2.L, r11.2.at_, (l6 ++ [r11.1])))) else none
noncomputable def gatemake_Stream_RightScopes_E1 (c4 : (List Int)) (c5 : Int) (l6 : (List Bs)) : Option ((List Bs) × S_gatemake_Stream) :=
  some (l6, (S_gatemake_Stream.mk c4 c5))
noncomputable def m_gatemake_Stream_RightScopes (s1 : S_gatemake_Stream) : Option ((List Bs) × S_gatemake_Stream) :=
  (m_gatemake_Stream_Range s1 0 4).bind fun (r2 : (Int × S_gatemake_Stream)) => if r2.1 ≤ 1000000000 then rng (fun (k : Nat) (s : (List Int) × Int × (List Bs)) => gatemake_Stream_RightScopes_L1 k s.1 s.2.1 s.2.2) (fun (s : (List Int) × Int × (List Bs)) => gatemake_Stream_RightScopes_E1 s.1 s.2.1 s.2.2) r2.1.toNat 0 (r2.2.L, r2.2.at_, []) else none
noncomputable def slices_IndexFunc_L_string_string__L1 (p1 : Bs → Option (Bool)) (k2 : Nat) (x5 : Bs) : Option (Unit ⊕ (Int)) :=
  (p1 x5).bind fun (r8 : Bool) => if r8 then (some (.inr (k2 : Int))) else (some (.inl ()))
noncomputable def slices_IndexFunc_L_string_string__E1 : Option (Int) :=
  some (-1)
noncomputable def m_slices_IndexFunc_L_string_string_ (s1 : (List Bs)) (p1 : Bs → Option (Bool)) : Option (Int) :=
  if s1.length ≤ 1000000000 then forL (fun (k : Nat) (x : Bs) (s : Unit) => slices_IndexFunc_L_string_string__L1 p1 k x) (fun (s : Unit) => slices_IndexFunc_L_string_string__E1) 0 s1 () else none
noncomputable def m_slices_ContainsFunc_L_string_string_ (s1 : (List Bs)) (p1 : Bs → Option (Bool)) : Option (Bool) :=
  (m_slices_IndexFunc_L_string_string_ s1 p1).bind fun (r2 : (Int)) => some (decide (0 ≤ r2))
noncomputable def m_gateref2_over (a1 : Bs) (b2 : Bs) : Option (Bool) :=
  (m_strings_CutSuffix a1 [42]).bind fun (r3 : (Bs × Bool)) => if r3.2 then ((m_strings_HasPrefix b2 r3.1).bind fun (r6 : (Bool)) => some r6) else (some (decide (a1 = b2)))
noncomputable def gateref2_LeastOf_1_J1 (v8 : Bool) : Option (Bool) :=
  some v8
noncomputable def m_gateref2_LeastOf_1 (o1 : Bs) (c2 : Bs) : Option (Bool) :=
  if decide (o1 ≠ c2) then ((m_gateref2_over o1 c2).bind fun (r5 : (Bool)) => gateref2_LeastOf_1_J1 r5) else (gateref2_LeastOf_1_J1 false)
noncomputable def gateref2_LeastOf_J2 (out17 : (List Bs)) : Option ((List Bs) ⊕ ((List Bs))) :=
  some (.inl out17)
noncomputable def gateref2_LeastOf_L1 (l1 : (List Bs)) (k3 : Nat) (x6 : Bs) (l2 : (List Bs)) : Option ((List Bs) ⊕ ((List Bs))) :=
  (m_slices_ContainsFunc_L_string_string_ l1 (fun (a0 : Bs) => m_gateref2_LeastOf_1 a0 x6)).bind fun (r13 : (Bool)) => if !r13 then (if l2.length + 1 ≤ 1000000000 then (gateref2_LeastOf_J2 (l2 ++ [x6])) else none) else (gateref2_LeastOf_J2 l2)
noncomputable def gateref2_LeastOf_E1 (l2 : (List Bs)) : Option ((List Bs)) :=
  (m_slices_Sort_string l2).bind fun (r7 : (List Bs)) => (m_slices_Compact_string r7).bind fun (r9 : ((List Bs))) => some r9
noncomputable def m_gateref2_LeastOf (l1 : (List Bs)) : Option ((List Bs)) :=
  if l1.length ≤ 1000000000 then forL (fun (k : Nat) (x : Bs) (s : (List Bs)) => gateref2_LeastOf_L1 l1 k x s) (fun (s : (List Bs)) => gateref2_LeastOf_E1 s) 0 l1 [] else none
noncomputable def m_gatemake_Stream_Pick (s1 : S_gatemake_Stream) (l2 : (List Int)) : Option (Int × S_gatemake_Stream) :=
  (m_gatemake_Stream_Next s1 (l2.length : Int)).bind fun (r3 : (Int × S_gatemake_Stream)) => (at? l2 r3.1).bind fun (x5 : Int) => some (x5, r3.2)
noncomputable def m_gatemake_Stream_RightClaims (s1 : S_gatemake_Stream) : Option (S_api_Claims × S_gatemake_Stream) :=
  (m_gatemake_Stream_Some s1 ([[116, 49], [116, 49], [116, 50], [116, 51]])).bind fun (r2 : (Bs × S_gatemake_Stream)) => (m_gatemake_Stream_Some r2.2 ([[97, 110, 110], [98, 111, 98]])).bind fun (r4 : (Bs × S_gatemake_Stream)) => (m_gatemake_Stream_Some r4.2 ([[103, 97, 116, 101], [103, 97, 116, 101], [103, 97, 116, 101], [111, 116, 104, 101, 114]])).bind fun (r6 : (Bs × S_gatemake_Stream)) => (m_gatemake_Stream_Some r6.2 ([[], [], [], [116, 48], [116, 50]])).bind fun (r8 : (Bs × S_gatemake_Stream)) => (m_gatemake_Stream_Next r8.2 5).bind fun (r10 : (Int × S_gatemake_Stream)) => (at? ([[], [], [[115, 104, 111, 112]], [[109, 97, 112, 115], [115, 104, 111, 112]], [[109, 97, 112, 115]]]) r10.1).bind fun (x12 : (List Bs)) => (m_gatemake_Stream_RightScopes r10.2).bind fun (r14 : ((List Bs) × S_gatemake_Stream)) => (m_gateref2_LeastOf r14.1).bind fun (r16 : ((List Bs))) => (m_gatemake_Stream_Pick r14.2 [0, 50, 100]).bind fun (r18 : (Int × S_gatemake_Stream)) => (m_gatemake_Stream_Pick r18.2 [1, 50, 100, 200]).bind fun (r20 : (Int × S_gatemake_Stream)) => some ((S_api_Claims.mk r2.1 r4.1 r6.1 r8.1 x12 r16 r18.1 (wr (r18.1 + r20.1))), r20.2)
noncomputable def m_gatemake_Stream_Flip (s1 : S_gatemake_Stream) (n2 : Int) : Option (Bool × S_gatemake_Stream) :=
  (m_gatemake_Stream_Next s1 n2).bind fun (r3 : (Int × S_gatemake_Stream)) => some (decide (r3.1 = 0), r3.2)
noncomputable def m_gatemake_Stream_Scope (s1 : S_gatemake_Stream) : Option (Bs × S_gatemake_Stream) :=
  (m_gatemake_Stream_Flip s1 25).bind fun (r2 : (Bool × S_gatemake_Stream)) => if r2.1 then ((m_strings_Repeat [97, 58] 10).bind fun (r5 : (Bs)) => if r5.length + [97].length ≤ 1000000000 then ((m_gatemake_Stream_Some r2.2 ([[], [97, 58, 42, 58, 98], [65], [97, 58, 58, 98], [97, 58], [42, 42], [97, 42], (r5 ++ [97])])).bind fun (r8 : (Bs × S_gatemake_Stream)) => some (r8.1, r8.2)) else none) else ((m_gatemake_Stream_Some r2.2 ([[42], [97], [97, 58, 42], [97, 58, 98], [97, 58, 98, 58, 42], [97, 58, 98, 58, 99], [98], [98, 58, 42], [98, 58, 99], [99]])).bind fun (r10 : (Bs × S_gatemake_Stream)) => some (r10.1, r10.2))
noncomputable def gatemake_Stream_Scopes_J2 (out17 : (List Bs)) (c18 : (List Int)) (c19 : Int) : Option ((List Bs) × S_gatemake_Stream) :=
  some (out17, (S_gatemake_Stream.mk c18 c19))
noncomputable def gatemake_Stream_Scopes_J1 (out10 : (List Bs)) (c11 : (List Int)) (c12 : Int) : Option ((List Bs) × S_gatemake_Stream) :=
  (m_gatemake_Stream_Flip (S_gatemake_Stream.mk c11 c12) 60).bind fun (r13 : (Bool × S_gatemake_Stream)) => if r13.1 then (if 51 ≤ 1000000000 then (gatemake_Stream_Scopes_J2 (List.replicate 51 []) r13.2.L r13.2.at_) else none) else (gatemake_Stream_Scopes_J2 out10 r13.2.L r13.2.at_)
noncomputable def m_gatemake_Stream_Scopes (s1 : S_gatemake_Stream) : Option ((List Bs) × S_gatemake_Stream) :=
  (m_gatemake_Stream_RightScopes s1).bind fun (r2 : ((List Bs) × S_gatemake_Stream)) => (m_gatemake_Stream_Flip r2.2 6).bind fun (r4 : (Bool × S_gatemake_Stream)) => if r4.1 then ((m_gatemake_Stream_Scope r4.2).bind fun (r7 : (Bs × S_gatemake_Stream)) => if r2.1.length + 1 ≤ 1000000000 then (gatemake_Stream_Scopes_J1 (r2.1 ++ [r7.1]) r7.2.L r7.2.at_) else none) else (gatemake_Stream_Scopes_J1 r2.1 r4.2.L r4.2.at_)
noncomputable def m_gatemake_Stream_Odd (s1 : S_gatemake_Stream) (low2 : Int) (high3 : Int) : Option (Int × S_gatemake_Stream) :=
  (m_gatemake_Stream_Flip s1 12).bind fun (r4 : (Bool × S_gatemake_Stream)) => if r4.1 then ((m_gatemake_Stream_Pick r4.2 [wr (low2 - 1), wr (high3 + 1), low2, high3, (-1099511627776), 1099511627776]).bind fun (r7 : (Int × S_gatemake_Stream)) => some (r7.1, r7.2)) else ((m_gatemake_Stream_Range r4.2 low2 high3).bind fun (r9 : (Int × S_gatemake_Stream)) => some (r9.1, r9.2))
noncomputable def gatemake_Stream_Claims_J1 (c31 : (List Int)) (c32 : Int) (c33 : Bs) (c34 : Bs) (c35 : Bs) (c36 : Bs) (c37 : (List Bs)) (c38 : (List Bs)) (c39 : Int) (c40 : Int) : Option (S_api_Claims × S_gatemake_Stream) :=
  some ((S_api_Claims.mk c33 c34 c35 c36 c37 c38 c39 c40), (S_gatemake_Stream.mk c31 c32))
noncomputable def m_gatemake_Stream_Claims (s1 : S_gatemake_Stream) : Option (S_api_Claims × S_gatemake_Stream) :=
  (m_gatemake_Stream_RightClaims s1).bind fun (r2 : (S_api_Claims × S_gatemake_Stream)) => (m_gatemake_Stream_Flip r2.2 8).bind fun (r4 : (Bool × S_gatemake_Stream)) => if r4.1 then ((m_gatemake_Stream_Next r4.2 5).bind fun (r7 : (Int × S_gatemake_Stream)) => if decide (r7.1 = 0) then ((m_gatemake_Stream_Some r7.2 ([[], [65], [116, 49]])).bind fun (r10 : (Bs × S_gatemake_Stream)) => (m_gatemake_Stream_Some r10.2 ([[97, 110, 110], []])).bind fun (r12 : (Bs × S_gatemake_Stream)) => gatemake_Stream_Claims_J1 r12.2.L r12.2.at_ r10.1 r12.1 r2.1.Issuer r2.1.Parent r2.1.Audience r2.1.Scopes r2.1.From r2.1.To) else (if decide (r7.1 = 1) then ((m_gatemake_Stream_Some r7.2 ([[], [103, 97, 116, 101]])).bind fun (r15 : (Bs × S_gatemake_Stream)) => (m_gatemake_Stream_Some r15.2 ([[65], [116, 48]])).bind fun (r17 : (Bs × S_gatemake_Stream)) => gatemake_Stream_Claims_J1 r17.2.L r17.2.at_ r2.1.Id r2.1.Subject r15.1 r17.1 r2.1.Audience r2.1.Scopes r2.1.From r2.1.To) else (if decide (r7.1 = 2) then ((m_gatemake_Stream_Next r7.2 3).bind fun (r20 : (Int × S_gatemake_Stream)) => (at? ([[[115, 104, 111, 112], [109, 97, 112, 115]], [[]], [[97], [97]]]) r20.1).bind fun (x22 : (List Bs)) => gatemake_Stream_Claims_J1 r20.2.L r20.2.at_ r2.1.Id r2.1.Subject r2.1.Issuer r2.1.Parent x22 r2.1.Scopes r2.1.From r2.1.To) else (if decide (r7.1 = 3) then ((m_gatemake_Stream_Scopes r7.2).bind fun (r25 : ((List Bs) × S_gatemake_Stream)) => gatemake_Stream_Claims_J1 r25.2.L r25.2.at_ r2.1.Id r2.1.Subject r2.1.Issuer r2.1.Parent r2.1.Audience r25.1 r2.1.From r2.1.To) else ((m_gatemake_Stream_Odd r7.2 0 300).bind fun (r27 : (Int × S_gatemake_Stream)) => (m_gatemake_Stream_Odd r27.2 0 300).bind fun (r29 : (Int × S_gatemake_Stream)) => gatemake_Stream_Claims_J1 r29.2.L r29.2.at_ r2.1.Id r2.1.Subject r2.1.Issuer r2.1.Parent r2.1.Audience r2.1.Scopes r27.1 r29.1))))) else (gatemake_Stream_Claims_J1 r4.2.L r4.2.at_ r2.1.Id r2.1.Subject r2.1.Issuer r2.1.Parent r2.1.Audience r2.1.Scopes r2.1.From r2.1.To)
noncomputable def kit_IsKey_L1 (i2 : Nat) (x5 : UInt8) : Option (Unit ⊕ (Bool)) :=
  if !(((decide (97 ≤ (x5.toNat : Int))) && (decide ((x5.toNat : Int) ≤ 122))) || ((decide (0 < (i2 : Int))) && ((((decide (48 ≤ (x5.toNat : Int))) && (decide ((x5.toNat : Int) ≤ 57))) || (decide ((x5.toNat : Int) = 45))) || (decide ((x5.toNat : Int) = 95))))) then (some (.inr false)) else (some (.inl ()))
noncomputable def kit_IsKey_E1 (s1 : Bs) : Option (Bool) :=
  some ((decide (s1 ≠ [])) && (decide ((s1.length : Int) ≤ 40)))
noncomputable def m_kit_IsKey (s1 : Bs) : Option (Bool) :=
  if s1.length ≤ 1000000000 then forL (fun (k : Nat) (x : UInt8) (s : Unit) => kit_IsKey_L1 k x) (fun (s : Unit) => kit_IsKey_E1 s1) 0 s1 () else none
noncomputable def kit_RisingFault_J2 (v16 : Bool) : Option (Unit ⊕ (Int)) :=
  if v16 then (some (.inr 7)) else (some (.inl ()))
noncomputable def kit_RisingFault_L1 (l1 : (List Bs)) (k2 : Nat) (x5 : Bs) : Option (Unit ⊕ (Int)) :=
  (m_kit_IsKey x5).bind fun (r8 : (Bool)) => if !r8 then (some (.inr 5)) else (if decide (0 < (k2 : Int)) then ((at? l1 ((k2 : Int) - 1)).bind fun (x13 : Bs) => kit_RisingFault_J2 (Op.bytesLess x5 x13 || x5 == x13)) else (kit_RisingFault_J2 false))
noncomputable def kit_RisingFault_E1 : Option (Int) :=
  some 0
noncomputable def m_kit_RisingFault (l1 : (List Bs)) : Option (Int) :=
  if l1.length ≤ 1000000000 then forL (fun (k : Nat) (x : Bs) (s : Unit) => kit_RisingFault_L1 l1 k x) (fun (s : Unit) => kit_RisingFault_E1) 0 l1 () else none
noncomputable def token_isScope_L1 (r2 : ((List Bs))) (k4 : Nat) (x7 : Bs) : Option (Unit ⊕ (Bool)) :=
  (m_kit_IsKey x7).bind fun (r10 : (Bool)) => if ((!r10) && (!((decide (x7 = [42])) && (decide ((k4 : Int) = (wr ((r2.length : Int) - 1))))))) then (some (.inr false)) else (some (.inl ()))
noncomputable def token_isScope_E1 (r2 : ((List Bs))) : Option (Bool) :=
  some (decide ((r2.length : Int) ≤ 10))
noncomputable def m_token_isScope (s1 : Bs) : Option (Bool) :=
  (m_strings_Split s1 [58]).bind fun (r2 : ((List Bs))) => if r2.length ≤ 1000000000 then forL (fun (k : Nat) (x : Bs) (s : Unit) => token_isScope_L1 r2 k x) (fun (s : Unit) => token_isScope_E1 r2) 0 r2 () else none
noncomputable def token_CheckScopes_L1 (k3 : Nat) (x6 : Bs) : Option (Unit ⊕ (Int)) :=
  (m_token_isScope x6).bind fun (r9 : (Bool)) => if !r9 then (some (.inr 3)) else (some (.inl ()))
noncomputable def token_CheckScopes_E1 : Option (Int) :=
  some 0
noncomputable def m_token_CheckScopes (l1 : (List Bs)) : Option (Int) :=
  if decide (50 < (l1.length : Int)) then some 2 else (if l1.length ≤ 1000000000 then forL (fun (k : Nat) (x : Bs) (s : Unit) => token_CheckScopes_L1 k x) (fun (s : Unit) => token_CheckScopes_E1) 0 l1 () else none)
noncomputable def m_kit_Rising (l1 : (List Bs)) : Option ((List Bs)) :=
  (m_slices_Clone l1).bind fun (r2 : ((List Bs))) => (m_slices_Sort_string r2).bind fun (r4 : (List Bs)) => (m_slices_Compact_string r4).bind fun (r6 : ((List Bs))) => some r6
noncomputable def slices_DeleteFunc_L_string_string__J3 (j6 : Int) (i17 : Int) (s18 : (List Bs)) : Option ((Int × Int × (List Bs)) ⊕ ((List Bs))) :=
  some (.inl (i17, wr (j6 + 1), s18))
noncomputable def slices_DeleteFunc_L_string_string__J1 (i19 : Int) (s20 : (List Bs)) : Option ((List Bs)) :=
  if (0 : Int) ≤ i19 ∧ i19 < (s20.length : Int) then (if (0 : Int) ≤ i19 ∧ i19 ≤ ((s20.take i19.toNat ++ List.replicate (s20.length - i19.toNat) []).length : Int) then (some ((s20.take i19.toNat ++ List.replicate (s20.length - i19.toNat) []).take i19.toNat)) else none) else none
noncomputable def slices_DeleteFunc_L_string_string__L2 (p1 : Bs → Option (Bool)) (i5 : Int) (j6 : Int) (l7 : (List Bs)) : Option ((Int × Int × (List Bs)) ⊕ ((List Bs))) :=
  if decide (j6 < (l7.length : Int)) then ((at? l7 j6).bind fun (x10 : Bs) => (p1 x10).bind fun (r12 : Bool) => if !r12 then ((at? l7 i5).bind fun (x15 : Bs) => slices_DeleteFunc_L_string_string__J3 j6 (wr (i5 + 1)) (l7.set i5.toNat x10)) else (slices_DeleteFunc_L_string_string__J3 j6 i5 l7)) else (Option.map .inr (slices_DeleteFunc_L_string_string__J1 i5 l7))
noncomputable def m_slices_DeleteFunc_L_string_string_ (s1 : (List Bs)) (p1 : Bs → Option (Bool)) : Option ((List Bs)) :=
  (m_slices_IndexFunc_L_string_string_ s1 p1).bind fun (r2 : (Int)) => if decide (r2 = (-1)) then some s1 else (iter (fun (s : Int × Int × (List Bs)) => slices_DeleteFunc_L_string_string__L2 p1 s.1 s.2.1 s.2.2) (r2, wr (r2 + 1), s1))
noncomputable def token_covers_J1 (v11 : Bool) : Option (Bool) :=
  some v11
noncomputable def m_token_covers (a1 : Bs) (b2 : Bs) : Option (Bool) :=
  if decide (a1 = b2) then some true else ((m_strings_CutSuffix a1 [42]).bind fun (r4 : (Bs × Bool)) => if r4.2 then ((m_strings_HasPrefix b2 r4.1).bind fun (r8 : (Bool)) => token_covers_J1 r8) else (token_covers_J1 false))
noncomputable def token_least_1_1_J1 (v8 : Bool) : Option (Bool) :=
  some v8
noncomputable def m_token_least_1_1 (h1 : Bs) (c2 : Bs) : Option (Bool) :=
  if decide (h1 ≠ c2) then ((m_token_covers h1 c2).bind fun (r5 : (Bool)) => token_least_1_1_J1 r5) else (token_least_1_1_J1 false)
noncomputable def m_token_least_1 (s1 : Bs) (c2 : (List Bs)) : Option (Bool) :=
  (m_slices_ContainsFunc_L_string_string_ c2 (fun (a0 : Bs) => m_token_least_1_1 a0 s1)).bind fun (r3 : (Bool)) => some r3
noncomputable def m_token_least (l1 : (List Bs)) : Option ((List Bs)) :=
  (m_kit_Rising l1).bind fun (r2 : ((List Bs))) => (m_slices_Clone r2).bind fun (r4 : ((List Bs))) => (m_slices_DeleteFunc_L_string_string_ r4 (fun (a0 : Bs) => m_token_least_1 a0 r2)).bind fun (r6 : ((List Bs))) => some r6
noncomputable def slices_Equal_L_string_string__L1 (s2 : (List Bs)) (k4 : Nat) (x7 : Bs) : Option (Unit ⊕ (Bool)) :=
  (s2[k4]?).bind fun (x10 : Bs) => if decide (x7 ≠ x10) then (some (.inr false)) else (some (.inl ()))
noncomputable def slices_Equal_L_string_string__E1 : Option (Bool) :=
  some true
noncomputable def m_slices_Equal_L_string_string_ (s1 : (List Bs)) (s2 : (List Bs)) : Option (Bool) :=
  if decide ((s1.length : Int) ≠ (s2.length : Int)) then some false else (if s1.length ≤ 1000000000 then forL (fun (k : Nat) (x : Bs) (s : Unit) => slices_Equal_L_string_string__L1 s2 k x) (fun (s : Unit) => slices_Equal_L_string_string__E1) 0 s1 () else none)
noncomputable def token_CheckClaims_J1 (v1 : S_api_Claims) (v22 : Bool) : Option (Int) :=
  if v22 then some 5 else (if decide (50 < (v1.Audience.length : Int)) then some 2 else ((m_kit_RisingFault v1.Audience).bind fun (r25 : (Int)) => if decide (r25 ≠ 0) then some r25 else ((m_token_CheckScopes v1.Scopes).bind fun (r28 : (Int)) => if decide (r28 ≠ 0) then some r28 else ((m_token_least v1.Scopes).bind fun (r31 : ((List Bs))) => (m_slices_Equal_L_string_string_ v1.Scopes r31).bind fun (r33 : (Bool)) => if !r33 then some 7 else (if (((decide (v1.From < 0)) || (decide (v1.To ≤ v1.From))) || (decide (345686400000 < v1.To))) then some 1 else some 0)))))
noncomputable def m_token_CheckClaims (v1 : S_api_Claims) : Option (Int) :=
  (m_kit_IsKey v1.Id).bind fun (r2 : (Bool)) => if !r2 then (token_CheckClaims_J1 v1 true) else ((m_kit_IsKey v1.Subject).bind fun (r6 : (Bool)) => if !r6 then (token_CheckClaims_J1 v1 true) else ((m_kit_IsKey v1.Issuer).bind fun (r10 : (Bool)) => if !r10 then (token_CheckClaims_J1 v1 true) else (if decide (v1.Parent ≠ []) then ((m_kit_IsKey v1.Parent).bind fun (r16 : (Bool)) => token_CheckClaims_J1 v1 (!r16)) else (token_CheckClaims_J1 v1 false))))
noncomputable def m_token_coveredBy_1 (h1 : Bs) (c2 : Bs) : Option (Bool) :=
  (m_token_covers h1 c2).bind fun (r3 : (Bool)) => some r3
noncomputable def m_token_coveredBy (l1 : (List Bs)) (s2 : Bs) : Option (Bool) :=
  (m_slices_ContainsFunc_L_string_string_ l1 (fun (a0 : Bs) => m_token_coveredBy_1 a0 s2)).bind fun (r3 : (Bool)) => some r3
noncomputable def m_token_coverAll_1 (s1 : Bs) (c2 : (List Bs)) : Option (Bool) :=
  (m_token_coveredBy c2 s1).bind fun (r3 : (Bool)) => some (!r3)
noncomputable def m_token_coverAll (v1 : (List Bs)) (want2 : (List Bs)) : Option (Bool) :=
  (m_slices_ContainsFunc_L_string_string_ want2 (fun (a0 : Bs) => m_token_coverAll_1 a0 v1)).bind fun (r3 : (Bool)) => some (!r3)
noncomputable def token_Delegate_J1 (v1 : S_api_Claims) (v2 : Bs) (v3 : Bs) (v4 : (List Bs)) (v5 : S_api_Window) (v19 : Bool) : Option (S_api_Claims × Int) :=
  if v19 then (some ((S_api_Claims.mk [] [] [] [] [] [] 0 0), 5)) else (if decide (v2 = v1.Id) then (some ((S_api_Claims.mk [] [] [] [] [] [] 0 0), 14)) else ((m_token_coverAll v1.Scopes v4).bind fun (r22 : (Bool)) => if !r22 then (some ((S_api_Claims.mk [] [] [] [] [] [] 0 0), 16)) else (if ((decide (v5.From < v1.From)) || (decide (v1.To < v5.To))) then (some ((S_api_Claims.mk [] [] [] [] [] [] 0 0), 16)) else ((m_slices_Clone v1.Audience).bind fun (r26 : ((List Bs))) => (m_token_least v4).bind fun (r28 : ((List Bs))) => (m_token_CheckClaims (S_api_Claims.mk v2 v3 v1.Issuer v1.Id r26 r28 v5.From v5.To)).bind fun (r30 : (Int)) => if decide (r30 ≠ 0) then (some ((S_api_Claims.mk [] [] [] [] [] [] 0 0), r30)) else (some ((S_api_Claims.mk v2 v3 v1.Issuer v1.Id r26 r28 v5.From v5.To), 0))))))
noncomputable def m_token_Delegate (v1 : S_api_Claims) (v2 : Bs) (v3 : Bs) (v4 : (List Bs)) (v5 : S_api_Window) : Option (S_api_Claims × Int) :=
  (m_token_CheckClaims v1).bind fun (r6 : (Int)) => if decide (r6 ≠ 0) then (some ((S_api_Claims.mk [] [] [] [] [] [] 0 0), r6)) else ((m_token_CheckScopes v4).bind fun (r9 : (Int)) => if decide (r9 ≠ 0) then (some ((S_api_Claims.mk [] [] [] [] [] [] 0 0), r9)) else ((m_kit_IsKey v2).bind fun (r12 : (Bool)) => if !r12 then (token_Delegate_J1 v1 v2 v3 v4 v5 true) else ((m_kit_IsKey v3).bind fun (r16 : (Bool)) => token_Delegate_J1 v1 v2 v3 v4 v5 (!r16))))
noncomputable def m_gateref2_in (n1 : Int) (low2 : Int) (high3 : Int) : Option (Bool) :=
  some ((decide (low2 ≤ n1)) && (decide (n1 ≤ high3)))
noncomputable def gateref2_only_L1 (some2 : Bs) (k3 : Nat) (x6 : UInt8) : Option (Unit ⊕ (Bool)) :=
  (m_strings_IndexByte some2 (x6.toNat : Int)).bind fun (r9 : (Int)) => if decide (r9 < 0) then (some (.inr false)) else (some (.inl ()))
noncomputable def gateref2_only_E1 : Option (Bool) :=
  some true
noncomputable def m_gateref2_only (s1 : Bs) (some2 : Bs) : Option (Bool) :=
  if s1.length ≤ 1000000000 then forL (fun (k : Nat) (x : UInt8) (s : Unit) => gateref2_only_L1 some2 k x) (fun (s : Unit) => gateref2_only_E1) 0 s1 () else none
noncomputable def gateref2_Key_J1 (v16 : Bool) : Option (Bool) :=
  some v16
noncomputable def m_gateref2_Key (s1 : Bs) : Option (Bool) :=
  (m_gateref2_in (s1.length : Int) 1 40).bind fun (r2 : (Bool)) => if r2 then ((sub? s1 0 1).bind fun (l6 : Bs) => (m_gateref2_only l6 [97, 98, 99, 100, 101, 102, 103, 104, 105, 106, 107, 108, 109, 110, 111, 112, 113, 114, 115, 116, 117, 118, 119, 120, 121, 122]).bind fun (r8 : (Bool)) => if r8 then ((m_gateref2_only s1 [97, 98, 99, 100, 101, 102, 103, 104, 105, 106, 107, 108, 109, 110, 111, 112, 113, 114, 115, 116, 117, 118, 119, 120, 121, 122, 48, 49, 50, 51, 52, 53, 54, 55, 56, 57, 45, 95]).bind fun (r12 : (Bool)) => gateref2_Key_J1 r12) else (gateref2_Key_J1 false)) else (gateref2_Key_J1 false)
noncomputable def gateref2_scope_L1 (r2 : ((List Bs))) (k4 : Nat) (x7 : Bs) : Option (Unit ⊕ (Bool)) :=
  (m_gateref2_Key x7).bind fun (r10 : (Bool)) => if ((!r10) && ((decide (x7 ≠ [42])) || (decide ((k4 : Int) < (wr ((r2.length : Int) - 1)))))) then (some (.inr false)) else (some (.inl ()))
noncomputable def gateref2_scope_E1 (r2 : ((List Bs))) : Option (Bool) :=
  some (decide ((r2.length : Int) ≤ 10))
noncomputable def m_gateref2_scope (s1 : Bs) : Option (Bool) :=
  (m_strings_Split s1 [58]).bind fun (r2 : ((List Bs))) => if r2.length ≤ 1000000000 then forL (fun (k : Nat) (x : Bs) (s : Unit) => gateref2_scope_L1 r2 k x) (fun (s : Unit) => gateref2_scope_E1 r2) 0 r2 () else none
noncomputable def gateref2_ScopesFault_L1 (k3 : Nat) (x6 : Bs) : Option (Unit ⊕ (Int)) :=
  (m_gateref2_scope x6).bind fun (r9 : (Bool)) => if !r9 then (some (.inr 3)) else (some (.inl ()))
noncomputable def gateref2_ScopesFault_E1 : Option (Int) :=
  some 0
noncomputable def m_gateref2_ScopesFault (l1 : (List Bs)) : Option (Int) :=
  if decide (50 < (l1.length : Int)) then some 2 else (if l1.length ≤ 1000000000 then forL (fun (k : Nat) (x : Bs) (s : Unit) => gateref2_ScopesFault_L1 k x) (fun (s : Unit) => gateref2_ScopesFault_E1) 0 l1 () else none)
noncomputable def gateref2_ClaimsFault_J3 (v48 : Bool) : Option (Unit ⊕ (Int)) :=
  if v48 then (some (.inr 7)) else (some (.inl ()))
noncomputable def gateref2_ClaimsFault_L2 (v1 : S_api_Claims) (k25 : Nat) (x28 : Bs) : Option (Unit ⊕ (Int)) :=
  (m_gateref2_Key x28).bind fun (r40 : (Bool)) => if !r40 then (some (.inr 5)) else (if decide (0 < (k25 : Int)) then ((at? v1.Audience ((k25 : Int) - 1)).bind fun (x45 : Bs) => gateref2_ClaimsFault_J3 (Op.bytesLess x28 x45 || x28 == x45)) else (gateref2_ClaimsFault_J3 false))
noncomputable def gateref2_ClaimsFault_E2 (v1 : S_api_Claims) : Option (Int) :=
  (m_gateref2_ScopesFault v1.Scopes).bind fun (r29 : (Int)) => if decide (r29 ≠ 0) then some r29 else ((m_gateref2_LeastOf v1.Scopes).bind fun (r32 : ((List Bs))) => (m_slices_Equal_L_string_string_ r32 v1.Scopes).bind fun (r34 : (Bool)) => if !r34 then some 7 else (if (((decide (v1.From < 0)) || (decide (v1.To ≤ v1.From))) || (decide (345686400000 < v1.To))) then some 1 else some 0))
noncomputable def gateref2_ClaimsFault_J1 (v1 : S_api_Claims) (v22 : Bool) : Option (Int) :=
  if v22 then some 5 else (if decide (50 < (v1.Audience.length : Int)) then some 2 else (if v1.Audience.length ≤ 1000000000 then forL (fun (k : Nat) (x : Bs) (s : Unit) => gateref2_ClaimsFault_L2 v1 k x) (fun (s : Unit) => gateref2_ClaimsFault_E2 v1) 0 v1.Audience () else none))
noncomputable def m_gateref2_ClaimsFault (v1 : S_api_Claims) : Option (Int) :=
  (m_gateref2_Key v1.Id).bind fun (r2 : (Bool)) => if !r2 then (gateref2_ClaimsFault_J1 v1 true) else ((m_gateref2_Key v1.Subject).bind fun (r6 : (Bool)) => if !r6 then (gateref2_ClaimsFault_J1 v1 true) else ((m_gateref2_Key v1.Issuer).bind fun (r10 : (Bool)) => if !r10 then (gateref2_ClaimsFault_J1 v1 true) else (if decide (v1.Parent ≠ []) then ((m_gateref2_Key v1.Parent).bind fun (r16 : (Bool)) => gateref2_ClaimsFault_J1 v1 (!r16)) else (gateref2_ClaimsFault_J1 v1 false))))
noncomputable def m_gateref2_covered_1 (h1 : Bs) (c2 : Bs) : Option (Bool) :=
  (m_gateref2_over h1 c2).bind fun (r3 : (Bool)) => some r3
noncomputable def m_gateref2_covered (v1 : (List Bs)) (s2 : Bs) : Option (Bool) :=
  (m_slices_ContainsFunc_L_string_string_ v1 (fun (a0 : Bs) => m_gateref2_covered_1 a0 s2)).bind fun (r3 : (Bool)) => some r3
noncomputable def m_gateref2_CoversOf_1 (w1 : Bs) (c2 : (List Bs)) : Option (Bool) :=
  (m_gateref2_covered c2 w1).bind fun (r3 : (Bool)) => some (!r3)
noncomputable def m_gateref2_CoversOf (v1 : (List Bs)) (want2 : (List Bs)) : Option (Bool) :=
  (m_slices_ContainsFunc_L_string_string_ want2 (fun (a0 : Bs) => m_gateref2_CoversOf_1 a0 v1)).bind fun (r3 : (Bool)) => some (!r3)
noncomputable def gateref2_DelegateOf_J2 (v1 : S_api_Claims) (v2 : Bs) (v3 : Bs) (v4 : (List Bs)) (v5 : S_api_Window) (v21 : Bool) : Option (S_api_Claims × Int) :=
  if v21 then (some ((S_api_Claims.mk [] [] [] [] [] [] 0 0), 5)) else (if decide (v2 = v1.Id) then (some ((S_api_Claims.mk [] [] [] [] [] [] 0 0), 14)) else ((m_gateref2_CoversOf v1.Scopes v4).bind fun (r24 : (Bool)) => if (((!r24) || (decide (v5.From < v1.From))) || (decide (v1.To < v5.To))) then (some ((S_api_Claims.mk [] [] [] [] [] [] 0 0), 16)) else ((m_slices_Clone v1.Audience).bind fun (r27 : ((List Bs))) => (m_gateref2_LeastOf v4).bind fun (r29 : ((List Bs))) => (m_gateref2_ClaimsFault (S_api_Claims.mk v2 v3 v1.Issuer v1.Id r27 r29 v5.From v5.To)).bind fun (r31 : (Int)) => if decide (r31 ≠ 0) then (some ((S_api_Claims.mk [] [] [] [] [] [] 0 0), r31)) else (some ((S_api_Claims.mk v2 v3 v1.Issuer v1.Id r27 r29 v5.From v5.To), 0)))))
noncomputable def gateref2_DelegateOf_L1 (k10 : Nat) (x13 : Int) : Option (Unit ⊕ (S_api_Claims × Int)) :=
  if decide (x13 ≠ 0) then (some (.inr ((S_api_Claims.mk [] [] [] [] [] [] 0 0), x13))) else (some (.inl ()))
noncomputable def gateref2_DelegateOf_E1 (v1 : S_api_Claims) (v2 : Bs) (v3 : Bs) (v4 : (List Bs)) (v5 : S_api_Window) : Option (S_api_Claims × Int) :=
  (m_gateref2_Key v2).bind fun (r14 : (Bool)) => if !r14 then (gateref2_DelegateOf_J2 v1 v2 v3 v4 v5 true) else ((m_gateref2_Key v3).bind fun (r18 : (Bool)) => gateref2_DelegateOf_J2 v1 v2 v3 v4 v5 (!r18))
noncomputable def m_gateref2_DelegateOf (v1 : S_api_Claims) (v2 : Bs) (v3 : Bs) (v4 : (List Bs)) (v5 : S_api_Window) : Option (S_api_Claims × Int) :=
  (m_gateref2_ClaimsFault v1).bind fun (r6 : (Int)) => (m_gateref2_ScopesFault v4).bind fun (r8 : (Int)) => if [r6, r8].length ≤ 1000000000 then forL (fun (k : Nat) (x : Int) (s : Unit) => gateref2_DelegateOf_L1 k x) (fun (s : Unit) => gateref2_DelegateOf_E1 v1 v2 v3 v4 v5) 0 [r6, r8] () else none
noncomputable def gateref2_SameClaims_J1 (v19 : Bool) : Option (Bool) :=
  some v19
noncomputable def m_gateref2_SameClaims (a1 : S_api_Claims) (b2 : S_api_Claims) : Option (Bool) :=
  if ((a1.Id == b2.Id) && ((a1.Subject == b2.Subject) && ((a1.Issuer == b2.Issuer) && ((a1.Parent == b2.Parent) && true)))) then ((m_slices_Equal_L_string_string_ a1.Audience b2.Audience).bind fun (r5 : (Bool)) => if r5 then ((m_slices_Equal_L_string_string_ a1.Scopes b2.Scopes).bind fun (r9 : (Bool)) => if r9 then (if decide (a1.From = b2.From) then (gateref2_SameClaims_J1 (decide (a1.To = b2.To))) else (gateref2_SameClaims_J1 false)) else (gateref2_SameClaims_J1 false)) else (gateref2_SameClaims_J1 false)) else (gateref2_SameClaims_J1 false)
noncomputable def slices_IndexFunc_L_api_Claims_api_Claims__L1 (p1 : S_api_Claims → Option (Bool)) (k2 : Nat) (x5 : S_api_Claims) : Option (Unit ⊕ (Int)) :=
  (p1 x5).bind fun (r8 : Bool) => if r8 then (some (.inr (k2 : Int))) else (some (.inl ()))
noncomputable def slices_IndexFunc_L_api_Claims_api_Claims__E1 : Option (Int) :=
  some (-1)
noncomputable def m_slices_IndexFunc_L_api_Claims_api_Claims_ (s1 : (List S_api_Claims)) (p1 : S_api_Claims → Option (Bool)) : Option (Int) :=
  if s1.length ≤ 1000000000 then forL (fun (k : Nat) (x : S_api_Claims) (s : Unit) => slices_IndexFunc_L_api_Claims_api_Claims__L1 p1 k x) (fun (s : Unit) => slices_IndexFunc_L_api_Claims_api_Claims__E1) 0 s1 () else none
noncomputable def m_slices_ContainsFunc_L_api_Claims_api_Claims_ (s1 : (List S_api_Claims)) (p1 : S_api_Claims → Option (Bool)) : Option (Bool) :=
  (m_slices_IndexFunc_L_api_Claims_api_Claims_ s1 p1).bind fun (r2 : (Int)) => some (decide (0 ≤ r2))
noncomputable def m_token_chainFault_1 (o1 : S_api_Claims) (c2 : S_api_Claims) : Option (Bool) :=
  some (decide (o1.Id = c2.Id))
noncomputable def token_chainFault_J1 (x3 : S_api_Claims) (x5 : S_api_Claims) (v18 : Bool) : Option (Int) :=
  if v18 then some 13 else ((m_token_coverAll x5.Scopes x3.Scopes).bind fun (r20 : (Bool)) => if (((!r20) || (decide (x3.From < x5.From))) || (decide (x5.To < x3.To))) then some 16 else some 0)
noncomputable def m_token_chainFault (l1 : (List S_api_Claims)) (i2 : Int) : Option (Int) :=
  (at? l1 i2).bind fun (x3 : S_api_Claims) => (at? l1 (wr (i2 - 1))).bind fun (x5 : S_api_Claims) => if decide (x3.Parent ≠ x5.Id) then some 3 else ((sub? l1 0 i2).bind fun (l8 : (List S_api_Claims)) => (m_slices_ContainsFunc_L_api_Claims_api_Claims_ l8 (fun (a0 : S_api_Claims) => m_token_chainFault_1 a0 x3)).bind fun (r10 : (Bool)) => if r10 then some 14 else (if decide (x3.Issuer ≠ x5.Issuer) then (token_chainFault_J1 x3 x5 true) else ((m_slices_Equal_L_string_string_ x3.Audience x5.Audience).bind fun (r15 : (Bool)) => token_chainFault_J1 x3 x5 (!r15))))
noncomputable def token_CheckChain_J2 : Option (Int) :=
  some 0
noncomputable def token_CheckChain_L3 (l1 : (List S_api_Claims)) (i11 : Int) : Option (Int ⊕ (Int)) :=
  if decide (i11 < (l1.length : Int)) then ((m_token_chainFault l1 i11).bind fun (r14 : (Int)) => if decide (r14 ≠ 0) then (some (.inr r14)) else (some (.inl (wr (i11 + 1))))) else (Option.map .inr (token_CheckChain_J2))
noncomputable def token_CheckChain_L1 (k3 : Nat) (x6 : S_api_Claims) : Option (Unit ⊕ (Int)) :=
  (m_token_CheckClaims x6).bind fun (r19 : (Int)) => if decide (r19 ≠ 0) then (some (.inr r19)) else (some (.inl ()))
noncomputable def token_CheckChain_E1 (l1 : (List S_api_Claims)) : Option (Int) :=
  if decide ((l1.length : Int) = 0) then some 8 else ((l1[0]?).bind fun (x8 : S_api_Claims) => if decide (x8.Parent ≠ []) then some 3 else (iter (fun (s : Int) => token_CheckChain_L3 l1 s) 1))
noncomputable def m_token_CheckChain (l1 : (List S_api_Claims)) : Option (Int) :=
  if decide (10 < (l1.length : Int)) then some 2 else (if l1.length ≤ 1000000000 then forL (fun (k : Nat) (x : S_api_Claims) (s : Unit) => token_CheckChain_L1 k x) (fun (s : Unit) => token_CheckChain_E1 l1) 0 l1 () else none)
noncomputable def m_gateref2_ChainFault_1 (o1 : S_api_Claims) (c2 : S_api_Claims) : Option (Bool) :=
  some (decide (o1.Id = c2.Id))
noncomputable def gateref2_ChainFault_J4 (v11 : Int) (x14 : S_api_Claims) (x16 : S_api_Claims) (v29 : Bool) : Option (Int ⊕ (Int)) :=
  if v29 then (some (.inr 13)) else ((m_gateref2_CoversOf x14.Scopes x16.Scopes).bind fun (r31 : (Bool)) => if (((!r31) || (decide (x16.From < x14.From))) || (decide (x14.To < x16.To))) then (some (.inr 16)) else (some (.inl (wr (v11 + 1)))))
noncomputable def gateref2_ChainFault_J2 : Option (Int) :=
  some 0
noncomputable def gateref2_ChainFault_L3 (v1 : (List S_api_Claims)) (v11 : Int) : Option (Int ⊕ (Int)) :=
  if decide (v11 < (v1.length : Int)) then ((at? v1 (wr (v11 - 1))).bind fun (x14 : S_api_Claims) => (at? v1 v11).bind fun (x16 : S_api_Claims) => if decide (x16.Parent ≠ x14.Id) then (some (.inr 3)) else ((sub? v1 0 v11).bind fun (l19 : (List S_api_Claims)) => (m_slices_ContainsFunc_L_api_Claims_api_Claims_ l19 (fun (a0 : S_api_Claims) => m_gateref2_ChainFault_1 a0 x16)).bind fun (r21 : (Bool)) => if r21 then (some (.inr 14)) else (if decide (x16.Issuer ≠ x14.Issuer) then (gateref2_ChainFault_J4 v11 x14 x16 true) else ((m_slices_Equal_L_string_string_ x16.Audience x14.Audience).bind fun (r26 : (Bool)) => gateref2_ChainFault_J4 v11 x14 x16 (!r26))))) else (Option.map .inr (gateref2_ChainFault_J2))
noncomputable def gateref2_ChainFault_L1 (k3 : Nat) (x6 : S_api_Claims) : Option (Unit ⊕ (Int)) :=
  (m_gateref2_ClaimsFault x6).bind fun (r36 : (Int)) => if decide (r36 ≠ 0) then (some (.inr r36)) else (some (.inl ()))
noncomputable def gateref2_ChainFault_E1 (v1 : (List S_api_Claims)) : Option (Int) :=
  if decide ((v1.length : Int) = 0) then some 8 else ((v1[0]?).bind fun (x8 : S_api_Claims) => if decide (x8.Parent ≠ []) then some 3 else (iter (fun (s : Int) => gateref2_ChainFault_L3 v1 s) 1))
noncomputable def m_gateref2_ChainFault (v1 : (List S_api_Claims)) : Option (Int) :=
  if decide (10 < (v1.length : Int)) then some 2 else (if v1.length ≤ 1000000000 then forL (fun (k : Nat) (x : S_api_Claims) (s : Unit) => gateref2_ChainFault_L1 k x) (fun (s : Unit) => gateref2_ChainFault_E1 v1) 0 v1 () else none)
noncomputable def token_Encode_L4 (x6 : Int) (k11 : Nat) (l10 : (List Int)) : Option ((List Int) ⊕ ((Bs × (List Int)) ⊕ (Bs))) :=
  if (0 : Int) ≤ (wr (18 - (wr (6 * (k11 : Int))))) then ((at? [65, 66, 67, 68, 69, 70, 71, 72, 73, 74, 75, 76, 77, 78, 79, 80, 81, 82, 83, 84, 85, 86, 87, 88, 89, 90, 97, 98, 99, 100, 101, 102, 103, 104, 105, 106, 107, 108, 109, 110, 111, 112, 113, 114, 115, 116, 117, 118, 119, 120, 121, 122, 48, 49, 50, 51, 52, 53, 54, 55, 56, 57, 45, 95] (and_ .i64 (shr_ .i64 x6 (wr (18 - (wr (6 * (k11 : Int)))))) 63)).bind fun (x18 : UInt8) => if l10.length + 1 ≤ 1000000000 then (some (.inl (l10 ++ [(x18.toNat : Int)]))) else none) else none
noncomputable def token_Encode_E4 (s2 : Bs) (l10 : (List Int)) : Option ((Bs × (List Int)) ⊕ (Bs)) :=
  (sub? s2 (min 3 (s2.length : Int)) (s2.length : Int)).bind fun (l14 : Bs) => some (.inl (l14, l10))
noncomputable def token_Encode_J5 (x25 : Int) : Option (Int ⊕ ((Bs × (List Int)) ⊕ (Bs))) :=
  some (.inl x25)
noncomputable def token_Encode_L3 (s2 : Bs) (k7 : Nat) (x6 : Int) : Option (Int ⊕ ((Bs × (List Int)) ⊕ (Bs))) :=
  if decide ((k7 : Int) < (min 3 (s2.length : Int))) then ((s2[k7]?).bind fun (x23 : UInt8) => token_Encode_J5 (or_ .i64 (shl_ .i64 x6 8) (IntKind.wrap .i64 (x23.toNat : Int)))) else (token_Encode_J5 (shl_ .i64 x6 8))
noncomputable def token_Encode_E3 (s2 : Bs) (l3 : (List Int)) (x6 : Int) : Option ((Bs × (List Int)) ⊕ (Bs)) :=
  if (wr ((min 3 (s2.length : Int)) + 1)) ≤ 1000000000 then rng (fun (k : Nat) (s : (List Int)) => token_Encode_L4 x6 k s) (fun (s : (List Int)) => token_Encode_E4 s2 s) ((wr ((min 3 (s2.length : Int)) + 1)).toNat) 0 l3 else none
noncomputable def token_Encode_J1 (out26 : (List Int)) : Option (Bs) :=
  some (strN out26)
noncomputable def token_Encode_L2 (s2 : Bs) (l3 : (List Int)) : Option ((Bs × (List Int)) ⊕ (Bs)) :=
  if decide (0 < (s2.length : Int)) then (if 3 ≤ 1000000000 then rng (fun (k : Nat) (s : Int) => token_Encode_L3 s2 k s) (fun (s : Int) => token_Encode_E3 s2 l3 s) 3 0 0 else none) else (Option.map .inr (token_Encode_J1 l3))
noncomputable def m_token_Encode (s1 : Bs) : Option (Bs) :=
  iter (fun (s : Bs × (List Int)) => token_Encode_L2 s.1 s.2) (s1, [])
noncomputable def m_gatelaw2_signed  : Option (Bool) :=
  (m_token_Encode [97, 98]).bind fun (r1 : (Bs)) => some (decide (r1 = [89, 87, 73]))
noncomputable def gatelaw2_ClaimsDelegated_J6 (l45 : (List S_api_Claims)) (r54 : (S_api_Claims × Int)) (c70 : Bs) (c71 : Bs) (c72 : Bs) (c73 : (List Bs)) (c74 : Int) (c75 : (List Int)) (c76 : Int) : Option (((List Int) × Int × (List S_api_Claims)) ⊕ (Bool)) :=
  if l45.length + 1 ≤ 1000000000 then (some (.inl (c75, c76, (l45 ++ [(S_api_Claims.mk c70 r54.1.Subject c71 c72 r54.1.Audience c73 r54.1.From c74)])))) else none
noncomputable def gatelaw2_ClaimsDelegated_J8 (v97 : Bool) : Option (Bool) :=
  some v97
noncomputable def gatelaw2_ClaimsDelegated_J7 (v87 : (List S_api_Claims)) : Option (Bool) :=
  (m_token_CheckChain v87).bind fun (r88 : (Int)) => (m_gateref2_ChainFault v87).bind fun (r90 : (Int)) => if decide (r88 = r90) then ((m_gatelaw2_signed ).bind fun (r94 : (Bool)) => gatelaw2_ClaimsDelegated_J8 r94) else (gatelaw2_ClaimsDelegated_J8 false)
noncomputable def gatelaw2_ClaimsDelegated_J4 (v78 : (List S_api_Claims)) (c79 : (List Int)) (c80 : Int) : Option (Bool) :=
  (m_gatemake_Stream_Flip (S_gatemake_Stream.mk c79 c80) 40).bind fun (r81 : (Bool × S_gatemake_Stream)) => if r81.1 then ((m_gatemake_Stream_Pick r81.2 [0, 11]).bind fun (r84 : (Int × S_gatemake_Stream)) => if 0 ≤ r84.1 ∧ r84.1 ≤ 1000000000 then (gatelaw2_ClaimsDelegated_J7 (List.replicate (r84.1.toNat) (S_api_Claims.mk [] [] [] [] [] [] 0 0))) else none) else (gatelaw2_ClaimsDelegated_J7 v78)
noncomputable def gatelaw2_ClaimsDelegated_L5 (k46 : Nat) (x49 : Bs) (c43 : (List Int)) (c44 : Int) (l45 : (List S_api_Claims)) : Option (((List Int) × Int × (List S_api_Claims)) ⊕ (Bool)) :=
  (at? l45 (wr ((l45.length : Int) - 1))).bind fun (x52 : S_api_Claims) => (m_gateref2_DelegateOf x52 x49 [98, 111, 116] x52.Scopes (S_api_Window.mk x52.From x52.To)).bind fun (r54 : (S_api_Claims × Int)) => if decide (r54.2 ≠ 0) then (Option.map .inr (gatelaw2_ClaimsDelegated_J4 l45 c43 c44)) else ((m_gatemake_Stream_Flip (S_gatemake_Stream.mk c43 c44) 10).bind fun (r57 : (Bool × S_gatemake_Stream)) => if r57.1 then ((m_gatemake_Stream_Next r57.2 5).bind fun (r60 : (Int × S_gatemake_Stream)) => if decide (r60.1 = 0) then ((m_gatemake_Stream_Some r60.2 ([[], [116, 48], [116, 55]])).bind fun (r63 : (Bs × S_gatemake_Stream)) => gatelaw2_ClaimsDelegated_J6 l45 r54 r54.1.Id r54.1.Issuer r63.1 r54.1.Scopes r54.1.To r63.2.L r63.2.at_) else (if decide (r60.1 = 1) then ((m_gatemake_Stream_Some r60.2 ([[116, 49], [116, 55]])).bind fun (r66 : (Bs × S_gatemake_Stream)) => gatelaw2_ClaimsDelegated_J6 l45 r54 r66.1 r54.1.Issuer r54.1.Parent r54.1.Scopes r54.1.To r66.2.L r66.2.at_) else (if decide (r60.1 = 2) then (gatelaw2_ClaimsDelegated_J6 l45 r54 r54.1.Id [111, 116, 104, 101, 114] r54.1.Parent r54.1.Scopes r54.1.To r60.2.L r60.2.at_) else (if decide (r60.1 = 3) then (gatelaw2_ClaimsDelegated_J6 l45 r54 r54.1.Id r54.1.Issuer r54.1.Parent r54.1.Scopes (wr (r54.1.To + 1)) r60.2.L r60.2.at_) else (gatelaw2_ClaimsDelegated_J6 l45 r54 r54.1.Id r54.1.Issuer r54.1.Parent ([[42]]) r54.1.To r60.2.L r60.2.at_))))) else (gatelaw2_ClaimsDelegated_J6 l45 r54 r54.1.Id r54.1.Issuer r54.1.Parent r54.1.Scopes r54.1.To r57.2.L r57.2.at_))
noncomputable def gatelaw2_ClaimsDelegated_E5 (c43 : (List Int)) (c44 : Int) (l45 : (List S_api_Claims)) : Option (Bool) :=
  gatelaw2_ClaimsDelegated_J4 l45 c43 c44
noncomputable def gatelaw2_ClaimsDelegated_J3 (v36 : (List S_api_Claims)) (c37 : (List Int)) (c38 : Int) : Option (Bool) :=
  (m_gatemake_Stream_Range (S_gatemake_Stream.mk c37 c38) 0 3).bind fun (r39 : (Int × S_gatemake_Stream)) => (sub? ([[116, 55], [116, 56], [116, 57]]) 0 r39.1).bind fun (l41 : (List Bs)) => if l41.length ≤ 1000000000 then forL (fun (k : Nat) (x : Bs) (s : (List Int) × Int × (List S_api_Claims)) => gatelaw2_ClaimsDelegated_L5 k x s.1 s.2.1 s.2.2) (fun (s : (List Int) × Int × (List S_api_Claims)) => gatelaw2_ClaimsDelegated_E5 s.1 s.2.1 s.2.2) 0 l41 (r39.2.L, r39.2.at_, v36) else none
noncomputable def gatelaw2_ClaimsDelegated_J2 (r2 : (S_api_Claims × S_gatemake_Stream)) (r18 : (Int × S_gatemake_Stream)) (v29 : Bool) : Option (Bool) :=
  if v29 then some false else ((m_gatemake_Stream_Flip r18.2 2).bind fun (r31 : (Bool × S_gatemake_Stream)) => if r31.1 then ((([r2.1] : (List S_api_Claims))[0]?).bind fun (x34 : S_api_Claims) => gatelaw2_ClaimsDelegated_J3 (([r2.1] : (List S_api_Claims)).set 0 (S_api_Claims.mk x34.Id x34.Subject x34.Issuer [] x34.Audience x34.Scopes x34.From x34.To)) r31.2.L r31.2.at_) else (gatelaw2_ClaimsDelegated_J3 ([r2.1] : (List S_api_Claims)) r31.2.L r31.2.at_))
noncomputable def gatelaw2_ClaimsDelegated_J1 (r2 : (S_api_Claims × S_gatemake_Stream)) (r4 : (Bs × S_gatemake_Stream)) (r6 : (Bs × S_gatemake_Stream)) (v13 : (List Bs)) (c14 : (List Int)) (c15 : Int) : Option (Bool) :=
  (m_gatemake_Stream_Pick (S_gatemake_Stream.mk c14 c15) [0, 0, 1, (-1)]).bind fun (r16 : (Int × S_gatemake_Stream)) => (m_gatemake_Stream_Pick r16.2 [0, 0, 1, (-1), 300]).bind fun (r18 : (Int × S_gatemake_Stream)) => (m_token_Delegate r2.1 r4.1 r6.1 v13 (S_api_Window.mk (wr (r2.1.From + r16.1)) (wr (r2.1.To - r18.1)))).bind fun (r20 : (S_api_Claims × Int)) => (m_gateref2_DelegateOf r2.1 r4.1 r6.1 v13 (S_api_Window.mk (wr (r2.1.From + r16.1)) (wr (r2.1.To - r18.1)))).bind fun (r22 : (S_api_Claims × Int)) => if decide (r20.2 ≠ r22.2) then (gatelaw2_ClaimsDelegated_J2 r2 r18 true) else ((m_gateref2_SameClaims r20.1 r22.1).bind fun (r26 : (Bool)) => gatelaw2_ClaimsDelegated_J2 r2 r18 (!r26))
noncomputable def m_gatelaw2_ClaimsDelegated (v1 : (List Int)) : Option (Bool) :=
  (m_gatemake_Stream_Claims (S_gatemake_Stream.mk v1 0)).bind fun (r2 : (S_api_Claims × S_gatemake_Stream)) => (m_gatemake_Stream_Some r2.2 ([[116, 57], [116, 57], [116, 56], [116, 49], [], [65]])).bind fun (r4 : (Bs × S_gatemake_Stream)) => (m_gatemake_Stream_Some r4.2 ([[98, 111, 116], [98, 111, 116], []])).bind fun (r6 : (Bs × S_gatemake_Stream)) => (m_gatemake_Stream_Scopes r6.2).bind fun (r8 : ((List Bs) × S_gatemake_Stream)) => (m_gatemake_Stream_Flip r8.2 2).bind fun (r10 : (Bool × S_gatemake_Stream)) => if r10.1 then (gatelaw2_ClaimsDelegated_J1 r2 r4 r6 r2.1.Scopes r10.2.L r10.2.at_) else (gatelaw2_ClaimsDelegated_J1 r2 r4 r6 r8.1 r10.2.L r10.2.at_)
end Go.Proofs.YtpeeeanmfmhlgaaGreatDoor
