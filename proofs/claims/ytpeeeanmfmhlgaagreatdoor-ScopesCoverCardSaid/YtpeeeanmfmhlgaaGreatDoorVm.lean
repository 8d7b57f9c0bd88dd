/- Plain models of functions. Printed by a program. -/
import Derived.Test.YtpeeeanmfmhlgaaGreatDoorMc
namespace Go.Proofs.YtpeeeanmfmhlgaaGreatDoor
set_option linter.unusedVariables false
set_option maxRecDepth 20000
structure S_gatemake_Stream where
  L : (List Int)
  at_ : Int
noncomputable def gatemake_Below_J1 (x6 : Int) : Option (Int) :=
  some x6
noncomputable def m_gatemake_Below (x1 : Int) (n2 : Int) : Option (Int) :=
  if decide (n2 < 1) then some 0 else (if n2 ≠ 0 then (if decide ((Int.tmod x1 n2) < 0) then (gatemake_Below_J1 (wr ((Int.tmod x1 n2) + n2))) else (gatemake_Below_J1 (Int.tmod x1 n2))) else none)
noncomputable def m_gatemake_Stream_Next (s1 : S_gatemake_Stream) (n2 : Int) : Option (Int × S_gatemake_Stream) :=
  if decide ((s1.L.length : Int) = 0) then ((m_gatemake_Below (wr ((wr (s1.at_ + 1)) * 7919)) n2).bind fun (r4 : (Int)) => some (r4, (S_gatemake_Stream.mk s1.L (wr (s1.at_ + 1))))) else (if (s1.L.length : Int) ≠ 0 then (if ((0 : Int) ≤ (wr ((wr (s1.at_ + 1)) - 1)) ∧ (wr ((wr (s1.at_ + 1)) - 1)) ≤ 9223372036854775807) ∧ (0 : Int) < (s1.L.length : Int) then ((at? s1.L (Int.tmod (wr ((wr (s1.at_ + 1)) - 1)) (s1.L.length : Int))).bind fun (x8 : Int) => (m_gatemake_Below x8 1073741824).bind fun (r10 : (Int)) => (m_gatemake_Below (wr (r10 + (wr (((wr ((wr (s1.at_ + 1)) - 1)) / (s1.L.length : Int)) * (wr (7919 + (Int.tmod (wr ((wr (s1.at_ + 1)) - 1)) (s1.L.length : Int)))))))) n2).bind fun (r12 : (Int)) => some (r12, (S_gatemake_Stream.mk s1.L (wr (s1.at_ + 1))))) else none) else none)
noncomputable def m_gatemake_Stream_Range (s1 : S_gatemake_Stream) (low2 : Int) (high3 : Int) : Option (Int × S_gatemake_Stream) :=
  if decide (high3 < low2) then (some (low2, s1)) else ((m_gatemake_Stream_Next s1 (wr ((wr (high3 - low2)) + 1))).bind fun (r5 : (Int × S_gatemake_Stream)) => some (wr (low2 + r5.1), r5.2))
noncomputable def m_gatemake_Stream_Some (s1 : S_gatemake_Stream) (l2 : (List Bs)) : Option (Bs × S_gatemake_Stream) :=
  (m_gatemake_Stream_Next s1 (l2.length : Int)).bind fun (r3 : (Int × S_gatemake_Stream)) => (at? l2 r3.1).bind fun (x5 : Bs) => some (x5, r3.2)
noncomputable def gatemake_Stream_RightScopes_L1 (k7 : Nat) (c4 : (List Int)) (c5 : Int) (l6 : (List Bs)) : Option (((List Int) × Int × (List Bs)) ⊕ ((List Bs) × S_gatemake_Stream)) :=
  (m_gatemake_Stream_Some (S_gatemake_Stream.mk c4 c5) ([[97], [97, 58, 42], [97, 58, 98], [97, 58, 98, 58, 42], [97, 58, 98, 58, 99], [98], [98, 58, 42], [98, 58, 99], [42]])).bind fun (r11 : (Bs × S_gatemake_Stream)) => if l6.length + 1 ≤ 1000000000 then (some (.inl (r11.2.L, r11.2.at_, (l6 ++ [r11.1])))) else none
noncomputable def gatemake_Stream_RightScopes_E1 (c4 : (List Int)) (c5 : Int) (l6 : (List Bs)) : Option ((List Bs) × S_gatemake_Stream) :=
  some (l6, (S_gatemake_Stream.mk c4 c5))
noncomputable def m_gatemake_Stream_RightScopes (s1 : S_gatemake_Stream) : Option ((List Bs) × S_gatemake_Stream) :=
  (m_gatemake_Stream_Range s1 0 4).bind fun (r2 : (Int × S_gatemake_Stream)) => if r2.1 ≤ 1000000000 then rng (fun (k : Nat) (s : (List Int) × Int × (List Bs)) => gatemake_Stream_RightScopes_L1 k s.1 s.2.1 s.2.2) (fun (s : (List Int) × Int × (List Bs)) => gatemake_Stream_RightScopes_E1 s.1 s.2.1 s.2.2) r2.1.toNat 0 (r2.2.L, r2.2.at_, []) else none
noncomputable def m_gatemake_Stream_Flip (s1 : S_gatemake_Stream) (n2 : Int) : Option (Bool × S_gatemake_Stream) :=
  (m_gatemake_Stream_Next s1 n2).bind fun (r3 : (Int × S_gatemake_Stream)) => some (decide (r3.1 = 0), r3.2)
noncomputable def m_gatemake_Stream_Scope (s1 : S_gatemake_Stream) : Option (Bs × S_gatemake_Stream) :=
  (m_gatemake_Stream_Flip s1 25).bind fun (r2 : (Bool × S_gatemake_Stream)) => if r2.1 then ((m_strings_Repeat [97, 58] 10).bind fun (r5 : (Bs)) => if r5.length + [97].length ≤ 1000000000 then ((m_gatemake_Stream_Some r2.2 ([[], [97, 58, 42, 58, 98], [65], [97, 58, 58, 98], [97, 58], [42, 42], [97, 42], (r5 ++ [97])])).bind fun (r8 : (Bs × S_gatemake_Stream)) => some (r8.1, r8.2)) else none) else ((m_gatemake_Stream_Some r2.2 ([[42], [97], [97, 58, 42], [97, 58, 98], [97, 58, 98, 58, 42], [97, 58, 98, 58, 99], [98], [98, 58, 42], [98, 58, 99], [99]])).bind fun (r10 : (Bs × S_gatemake_Stream)) => some (r10.1, r10.2))
noncomputable def gatemake_Stream_Scopes_J2 (out17 : (List Bs)) (c18 : (List Int)) (c19 : Int) : Option ((List Bs) × S_gatemake_Stream) :=
  some (out17, (S_gatemake_Stream.mk c18 c19))
noncomputable def gatemake_Stream_Scopes_J1 (out10 : (List Bs)) (c11 : (List Int)) (c12 : Int) : Option ((List Bs) × S_gatemake_Stream) :=
  (m_gatemake_Stream_Flip (S_gatemake_Stream.mk c11 c12) 60).bind fun (r13 : (Bool × S_gatemake_Stream)) => if r13.1 then (if 51 ≤ 1000000000 then (gatemake_Stream_Scopes_J2 (List.replicate 51 []) r13.2.L r13.2.at_) else none) else (gatemake_Stream_Scopes_J2 out10 r13.2.L r13.2.at_)
noncomputable def m_gatemake_Stream_Scopes (s1 : S_gatemake_Stream) : Option ((List Bs) × S_gatemake_Stream) :=
  (m_gatemake_Stream_RightScopes s1).bind fun (r2 : ((List Bs) × S_gatemake_Stream)) => (m_gatemake_Stream_Flip r2.2 6).bind fun (r4 : (Bool × S_gatemake_Stream)) => if r4.1 then ((m_gatemake_Stream_Scope r4.2).bind fun (r7 : (Bs × S_gatemake_Stream)) => if r2.1.length + 1 ≤ 1000000000 then (gatemake_Stream_Scopes_J1 (r2.1 ++ [r7.1]) r7.2.L r7.2.at_) else none) else (gatemake_Stream_Scopes_J1 r2.1 r4.2.L r4.2.at_)
noncomputable def kit_IsKey_L1 (i2 : Nat) (x5 : UInt8) : Option (Unit ⊕ (Bool)) :=
  if !(((decide (97 ≤ (x5.toNat : Int))) && (decide ((x5.toNat : Int) ≤ 122))) || ((decide (0 < (i2 : Int))) && ((((decide (48 ≤ (x5.toNat : Int))) && (decide ((x5.toNat : Int) ≤ 57))) || (decide ((x5.toNat : Int) = 45))) || (decide ((x5.toNat : Int) = 95))))) then (some (.inr false)) else (some (.inl ()))
noncomputable def kit_IsKey_E1 (s1 : Bs) : Option (Bool) :=
  some ((decide (s1 ≠ [])) && (decide ((s1.length : Int) ≤ 40)))
noncomputable def m_kit_IsKey (s1 : Bs) : Option (Bool) :=
  if s1.length ≤ 1000000000 then forL (fun (k : Nat) (x : UInt8) (s : Unit) => kit_IsKey_L1 k x) (fun (s : Unit) => kit_IsKey_E1 s1) 0 s1 () else none
noncomputable def token_isScope_L1 (r2 : ((List Bs))) (k4 : Nat) (x7 : Bs) : Option (Unit ⊕ (Bool)) :=
  (m_kit_IsKey x7).bind fun (r10 : (Bool)) => if ((!r10) && (!((decide (x7 = [42])) && (decide ((k4 : Int) = (wr ((r2.length : Int) - 1))))))) then (some (.inr false)) else (some (.inl ()))
noncomputable def token_isScope_E1 (r2 : ((List Bs))) : Option (Bool) :=
  some (decide ((r2.length : Int) ≤ 10))
noncomputable def m_token_isScope (s1 : Bs) : Option (Bool) :=
  (m_strings_Split s1 [58]).bind fun (r2 : ((List Bs))) => if r2.length ≤ 1000000000 then forL (fun (k : Nat) (x : Bs) (s : Unit) => token_isScope_L1 r2 k x) (fun (s : Unit) => token_isScope_E1 r2) 0 r2 () else none
noncomputable def token_CheckScopes_L1 (k3 : Nat) (x6 : Bs) : Option (Unit ⊕ (Int)) :=
  (m_token_isScope x6).bind fun (r9 : (Bool)) => if !r9 then (some (.inr 3)) else (some (.inl ()))
noncomputable def token_CheckScopes_E1 : Option (Int) :=
  some 0
noncomputable def m_token_CheckScopes (l1 : (List Bs)) : Option (Int) :=
  if decide (50 < (l1.length : Int)) then some 2 else (if l1.length ≤ 1000000000 then forL (fun (k : Nat) (x : Bs) (s : Unit) => token_CheckScopes_L1 k x) (fun (s : Unit) => token_CheckScopes_E1) 0 l1 () else none)
noncomputable def token_checkLists_L1 (k2 : Nat) (x5 : (List Bs)) : Option (Unit ⊕ (Int)) :=
  (m_token_CheckScopes x5).bind fun (r8 : (Int)) => if decide (r8 ≠ 0) then (some (.inr r8)) else (some (.inl ()))
noncomputable def token_checkLists_E1 : Option (Int) :=
  some 0
noncomputable def m_token_checkLists (l1 : (List (List Bs))) : Option (Int) :=
  if l1.length ≤ 1000000000 then forL (fun (k : Nat) (x : (List Bs)) (s : Unit) => token_checkLists_L1 k x) (fun (s : Unit) => token_checkLists_E1) 0 l1 () else none
noncomputable def slices_IndexFunc_L_string_string__L1 (p1 : Bs → Option (Bool)) (k2 : Nat) (x5 : Bs) : Option (Unit ⊕ (Int)) :=
  (p1 x5).bind fun (r8 : Bool) => if r8 then (some (.inr (k2 : Int))) else (some (.inl ()))
noncomputable def slices_IndexFunc_L_string_string__E1 : Option (Int) :=
  some (-1)
noncomputable def m_slices_IndexFunc_L_string_string_ (s1 : (List Bs)) (p1 : Bs → Option (Bool)) : Option (Int) :=
  if s1.length ≤ 1000000000 then forL (fun (k : Nat) (x : Bs) (s : Unit) => slices_IndexFunc_L_string_string__L1 p1 k x) (fun (s : Unit) => slices_IndexFunc_L_string_string__E1) 0 s1 () else none
noncomputable def m_slices_ContainsFunc_L_string_string_ (s1 : (List Bs)) (p1 : Bs → Option (Bool)) : Option (Bool) :=
  (m_slices_IndexFunc_L_string_string_ s1 p1).bind fun (r2 : (Int)) => some (decide (0 ≤ r2))
noncomputable def token_covers_J1 (v11 : Bool) : Option (Bool) :=
  some v11
noncomputable def m_token_covers (a1 : Bs) (b2 : Bs) : Option (Bool) :=
  if decide (a1 = b2) then some true else ((m_strings_CutSuffix a1 [42]).bind fun (r4 : (Bs × Bool)) => if r4.2 then ((m_strings_HasPrefix b2 r4.1).bind fun (r8 : (Bool)) => token_covers_J1 r8) else (token_covers_J1 false))
noncomputable def m_token_coveredBy_1 (h1 : Bs) (c2 : Bs) : Option (Bool) :=
  (m_token_covers h1 c2).bind fun (r3 : (Bool)) => some r3
noncomputable def m_token_coveredBy (l1 : (List Bs)) (s2 : Bs) : Option (Bool) :=
  (m_slices_ContainsFunc_L_string_string_ l1 (fun (a0 : Bs) => m_token_coveredBy_1 a0 s2)).bind fun (r3 : (Bool)) => some r3
noncomputable def m_token_coverAll_1 (s1 : Bs) (c2 : (List Bs)) : Option (Bool) :=
  (m_token_coveredBy c2 s1).bind fun (r3 : (Bool)) => some (!r3)
noncomputable def m_token_coverAll (v1 : (List Bs)) (want2 : (List Bs)) : Option (Bool) :=
  (m_slices_ContainsFunc_L_string_string_ want2 (fun (a0 : Bs) => m_token_coverAll_1 a0 v1)).bind fun (r3 : (Bool)) => some (!r3)
noncomputable def m_token_Covers (v1 : (List Bs)) (want2 : (List Bs)) : Option (Bool × Int) :=
  (m_token_checkLists [v1, want2]).bind fun (r3 : (Int)) => if decide (r3 ≠ 0) then (some (false, r3)) else ((m_token_coverAll v1 want2).bind fun (r6 : (Bool)) => some (r6, 0))
noncomputable def m_kit_Rising (l1 : (List Bs)) : Option ((List Bs)) :=
  (m_slices_Clone l1).bind fun (r2 : ((List Bs))) => (m_slices_Sort_string r2).bind fun (r4 : (List Bs)) => (m_slices_Compact_string r4).bind fun (r6 : ((List Bs))) => some r6
noncomputable def slices_DeleteFunc_L_string_string__J3 (j6 : Int) (i17 : Int) (s18 : (List Bs)) : Option ((Int × Int × (List Bs)) ⊕ ((List Bs))) :=
  some (.inl (i17, wr (j6 + 1), s18))
noncomputable def slices_DeleteFunc_L_string_string__J1 (i19 : Int) (s20 : (List Bs)) : Option ((List Bs)) :=
  if (0 : Int) ≤ i19 ∧ i19 < (s20.length : Int) then (if (0 : Int) ≤ i19 ∧ i19 ≤ ((s20.take i19.toNat ++ List.replicate (s20.length - i19.toNat) []).length : Int) then (some ((s20.take i19.toNat ++ List.replicate (s20.length - i19.toNat) []).take i19.toNat)) else none) else none
noncomputable def slices_DeleteFunc_L_string_string__L2 (p1 : Bs → Option (Bool)) (i5 : Int) (j6 : Int) (l7 : (List Bs)) : Option ((Int × Int × (List Bs)) ⊕ ((List Bs))) :=
  if decide (j6 < (l7.length : Int)) then ((at? l7 j6).bind fun (x10 : Bs) => (p1 x10).bind fun (r12 : Bool) => if !r12 then ((at? l7 i5).bind fun (x15 : Bs) => slices_DeleteFunc_L_string_string__J3 j6 (wr (i5 + 1)) (l7.set i5.toNat x10)) else (slices_DeleteFunc_L_string_string__J3 j6 i5 l7)) else (Option.map .inr (slices_DeleteFunc_L_string_string__J1 i5 l7))
noncomputable def m_slices_DeleteFunc_L_string_string_ (s1 : (List Bs)) (p1 : Bs → Option (Bool)) : Option ((List Bs)) :=
  (m_slices_IndexFunc_L_string_string_ s1 p1).bind fun (r2 : (Int)) => if decide (r2 = (-1)) then some s1 else (iter (fun (s : Int × Int × (List Bs)) => slices_DeleteFunc_L_string_string__L2 p1 s.1 s.2.1 s.2.2) (r2, wr (r2 + 1), s1))
noncomputable def token_least_1_1_J1 (v8 : Bool) : Option (Bool) :=
  some v8
noncomputable def m_token_least_1_1 (h1 : Bs) (c2 : Bs) : Option (Bool) :=
  if decide (h1 ≠ c2) then ((m_token_covers h1 c2).bind fun (r5 : (Bool)) => token_least_1_1_J1 r5) else (token_least_1_1_J1 false)
noncomputable def m_token_least_1 (s1 : Bs) (c2 : (List Bs)) : Option (Bool) :=
  (m_slices_ContainsFunc_L_string_string_ c2 (fun (a0 : Bs) => m_token_least_1_1 a0 s1)).bind fun (r3 : (Bool)) => some r3
noncomputable def m_token_least (l1 : (List Bs)) : Option ((List Bs)) :=
  (m_kit_Rising l1).bind fun (r2 : ((List Bs))) => (m_slices_Clone r2).bind fun (r4 : ((List Bs))) => (m_slices_DeleteFunc_L_string_string_ r4 (fun (a0 : Bs) => m_token_least_1 a0 r2)).bind fun (r6 : ((List Bs))) => some r6
noncomputable def m_token_LeastScopes (l1 : (List Bs)) : Option ((List Bs) × Int) :=
  (m_token_CheckScopes l1).bind fun (r2 : (Int)) => if decide (r2 ≠ 0) then (some ([], r2)) else ((m_token_least l1).bind fun (r5 : ((List Bs))) => some (r5, 0))
noncomputable def token_Meet_J3 (out31 : (List Bs)) : Option ((List Bs) ⊕ ((List Bs) ⊕ ((List Bs) × Int))) :=
  some (.inl out31)
noncomputable def token_Meet_L2 (x10 : Bs) (k17 : Nat) (x20 : Bs) (l16 : (List Bs)) : Option ((List Bs) ⊕ ((List Bs) ⊕ ((List Bs) × Int))) :=
  (m_token_covers x10 x20).bind fun (r23 : (Bool)) => if r23 then (if l16.length + 1 ≤ 1000000000 then (token_Meet_J3 (l16 ++ [x20])) else none) else ((m_token_covers x20 x10).bind fun (r27 : (Bool)) => if r27 then (if l16.length + 1 ≤ 1000000000 then (token_Meet_J3 (l16 ++ [x10])) else none) else (token_Meet_J3 l16))
noncomputable def token_Meet_E2 (l16 : (List Bs)) : Option ((List Bs) ⊕ ((List Bs) × Int)) :=
  some (.inl l16)
noncomputable def token_Meet_L1 (b2 : (List Bs)) (k7 : Nat) (x10 : Bs) (l6 : (List Bs)) : Option ((List Bs) ⊕ ((List Bs) × Int)) :=
  if b2.length ≤ 1000000000 then forL (fun (k : Nat) (x : Bs) (s : (List Bs)) => token_Meet_L2 x10 k x s) (fun (s : (List Bs)) => token_Meet_E2 s) 0 b2 l6 else none
noncomputable def token_Meet_E1 (l6 : (List Bs)) : Option ((List Bs) × Int) :=
  (m_token_least l6).bind fun (r11 : ((List Bs))) => if decide (50 < (r11.length : Int)) then (some ([], 2)) else (some (r11, 0))
noncomputable def m_token_Meet (a1 : (List Bs)) (b2 : (List Bs)) : Option ((List Bs) × Int) :=
  (m_token_checkLists [a1, b2]).bind fun (r3 : (Int)) => if decide (r3 ≠ 0) then (some ([], r3)) else (if a1.length ≤ 1000000000 then forL (fun (k : Nat) (x : Bs) (s : (List Bs)) => token_Meet_L1 b2 k x s) (fun (s : (List Bs)) => token_Meet_E1 s) 0 a1 [] else none)
noncomputable def m_gateref2_in (n1 : Int) (low2 : Int) (high3 : Int) : Option (Bool) :=
  some ((decide (low2 ≤ n1)) && (decide (n1 ≤ high3)))
noncomputable def gateref2_only_L1 (some2 : Bs) (k3 : Nat) (x6 : UInt8) : Option (Unit ⊕ (Bool)) :=
  (m_strings_IndexByte some2 (x6.toNat : Int)).bind fun (r9 : (Int)) => if decide (r9 < 0) then (some (.inr false)) else (some (.inl ()))
noncomputable def gateref2_only_E1 : Option (Bool) :=
  some true
noncomputable def m_gateref2_only (s1 : Bs) (some2 : Bs) : Option (Bool) :=
  if s1.length ≤ 1000000000 then forL (fun (k : Nat) (x : UInt8) (s : Unit) => gateref2_only_L1 some2 k x) (fun (s : Unit) => gateref2_only_E1) 0 s1 () else none
noncomputable def gateref2_Key_J1 (v16 : Bool) : Option (Bool) :=
  some v16
noncomputable def m_gateref2_Key (s1 : Bs) : Option (Bool) :=
  (m_gateref2_in (s1.length : Int) 1 40).bind fun (r2 : (Bool)) => if r2 then ((sub? s1 0 1).bind fun (l6 : Bs) => (m_gateref2_only l6 [97, 98, 99, 100, 101, 102, 103, 104, 105, 106, 107, 108, 109, 110, 111, 112, 113, 114, 115, 116, 117, 118, 119, 120, 121, 122]).bind fun (r8 : (Bool)) => if r8 then ((m_gateref2_only s1 [97, 98, 99, 100, 101, 102, 103, 104, 105, 106, 107, 108, 109, 110, 111, 112, 113, 114, 115, 116, 117, 118, 119, 120, 121, 122, 48, 49, 50, 51, 52, 53, 54, 55, 56, 57, 45, 95]).bind fun (r12 : (Bool)) => gateref2_Key_J1 r12) else (gateref2_Key_J1 false)) else (gateref2_Key_J1 false)
noncomputable def gateref2_scope_L1 (r2 : ((List Bs))) (k4 : Nat) (x7 : Bs) : Option (Unit ⊕ (Bool)) :=
  (m_gateref2_Key x7).bind fun (r10 : (Bool)) => if ((!r10) && ((decide (x7 ≠ [42])) || (decide ((k4 : Int) < (wr ((r2.length : Int) - 1)))))) then (some (.inr false)) else (some (.inl ()))
noncomputable def gateref2_scope_E1 (r2 : ((List Bs))) : Option (Bool) :=
  some (decide ((r2.length : Int) ≤ 10))
noncomputable def m_gateref2_scope (s1 : Bs) : Option (Bool) :=
  (m_strings_Split s1 [58]).bind fun (r2 : ((List Bs))) => if r2.length ≤ 1000000000 then forL (fun (k : Nat) (x : Bs) (s : Unit) => gateref2_scope_L1 r2 k x) (fun (s : Unit) => gateref2_scope_E1 r2) 0 r2 () else none
noncomputable def gateref2_ScopesFault_L1 (k3 : Nat) (x6 : Bs) : Option (Unit ⊕ (Int)) :=
  (m_gateref2_scope x6).bind fun (r9 : (Bool)) => if !r9 then (some (.inr 3)) else (some (.inl ()))
noncomputable def gateref2_ScopesFault_E1 : Option (Int) :=
  some 0
noncomputable def m_gateref2_ScopesFault (l1 : (List Bs)) : Option (Int) :=
  if decide (50 < (l1.length : Int)) then some 2 else (if l1.length ≤ 1000000000 then forL (fun (k : Nat) (x : Bs) (s : Unit) => gateref2_ScopesFault_L1 k x) (fun (s : Unit) => gateref2_ScopesFault_E1) 0 l1 () else none)
noncomputable def gatelaw2_errs_L1 (k2 : Nat) (x5 : Int) : Option (Unit ⊕ (Int)) :=
  if decide (x5 ≠ 0) then (some (.inr x5)) else (some (.inl ()))
noncomputable def gatelaw2_errs_E1 : Option (Int) :=
  some 0
noncomputable def m_gatelaw2_errs (l1 : (List Int)) : Option (Int) :=
  if l1.length ≤ 1000000000 then forL (fun (k : Nat) (x : Int) (s : Unit) => gatelaw2_errs_L1 k x) (fun (s : Unit) => gatelaw2_errs_E1) 0 l1 () else none
noncomputable def m_gateref2_over (a1 : Bs) (b2 : Bs) : Option (Bool) :=
  (m_strings_CutSuffix a1 [42]).bind fun (r3 : (Bs × Bool)) => if r3.2 then ((m_strings_HasPrefix b2 r3.1).bind fun (r6 : (Bool)) => some r6) else (some (decide (a1 = b2)))
noncomputable def m_gateref2_covered_1 (h1 : Bs) (c2 : Bs) : Option (Bool) :=
  (m_gateref2_over h1 c2).bind fun (r3 : (Bool)) => some r3
noncomputable def m_gateref2_covered (v1 : (List Bs)) (s2 : Bs) : Option (Bool) :=
  (m_slices_ContainsFunc_L_string_string_ v1 (fun (a0 : Bs) => m_gateref2_covered_1 a0 s2)).bind fun (r3 : (Bool)) => some r3
noncomputable def m_gateref2_CoversOf_1 (w1 : Bs) (c2 : (List Bs)) : Option (Bool) :=
  (m_gateref2_covered c2 w1).bind fun (r3 : (Bool)) => some (!r3)
noncomputable def m_gateref2_CoversOf (v1 : (List Bs)) (want2 : (List Bs)) : Option (Bool) :=
  (m_slices_ContainsFunc_L_string_string_ want2 (fun (a0 : Bs) => m_gateref2_CoversOf_1 a0 v1)).bind fun (r3 : (Bool)) => some (!r3)
noncomputable def gateref2_LeastOf_1_J1 (v8 : Bool) : Option (Bool) :=
  some v8
noncomputable def m_gateref2_LeastOf_1 (o1 : Bs) (c2 : Bs) : Option (Bool) :=
  if decide (o1 ≠ c2) then ((m_gateref2_over o1 c2).bind fun (r5 : (Bool)) => gateref2_LeastOf_1_J1 r5) else (gateref2_LeastOf_1_J1 false)
noncomputable def gateref2_LeastOf_J2 (out17 : (List Bs)) : Option ((List Bs) ⊕ ((List Bs))) :=
  some (.inl out17)
noncomputable def gateref2_LeastOf_L1 (l1 : (List Bs)) (k3 : Nat) (x6 : Bs) (l2 : (List Bs)) : Option ((List Bs) ⊕ ((List Bs))) :=
  (m_slices_ContainsFunc_L_string_string_ l1 (fun (a0 : Bs) => m_gateref2_LeastOf_1 a0 x6)).bind fun (r13 : (Bool)) => if !r13 then (if l2.length + 1 ≤ 1000000000 then (gateref2_LeastOf_J2 (l2 ++ [x6])) else none) else (gateref2_LeastOf_J2 l2)
noncomputable def gateref2_LeastOf_E1 (l2 : (List Bs)) : Option ((List Bs)) :=
  (m_slices_Sort_string l2).bind fun (r7 : (List Bs)) => (m_slices_Compact_string r7).bind fun (r9 : ((List Bs))) => some r9
noncomputable def m_gateref2_LeastOf (l1 : (List Bs)) : Option ((List Bs)) :=
  if l1.length ≤ 1000000000 then forL (fun (k : Nat) (x : Bs) (s : (List Bs)) => gateref2_LeastOf_L1 l1 k x s) (fun (s : (List Bs)) => gateref2_LeastOf_E1 s) 0 l1 [] else none
noncomputable def slices_Concat_L_string_string__L2 (k10 : Nat) (x13 : (List Bs)) (l9 : (List Bs)) : Option ((List Bs) ⊕ ((List Bs))) :=
  if l9.length + x13.length ≤ 1000000000 then (some (.inl (l9 ++ x13))) else none
noncomputable def slices_Concat_L_string_string__E2 (l9 : (List Bs)) : Option ((List Bs)) :=
  some l9
noncomputable def slices_Concat_L_string_string__L1 (k3 : Nat) (x6 : (List Bs)) (size2 : Int) : Option (Int ⊕ ((List Bs))) :=
  if decide ((wr (size2 + (x6.length : Int))) < 0) then none else (some (.inl (wr (size2 + (x6.length : Int)))))
noncomputable def slices_Concat_L_string_string__E1 (slices1 : (List (List Bs))) (size2 : Int) : Option ((List Bs)) :=
  (m_slices_Grow size2).bind fun (r7 : ((List Bs))) => if slices1.length ≤ 1000000000 then forL (fun (k : Nat) (x : (List Bs)) (s : (List Bs)) => slices_Concat_L_string_string__L2 k x s) (fun (s : (List Bs)) => slices_Concat_L_string_string__E2 s) 0 slices1 r7 else none
noncomputable def m_slices_Concat_L_string_string_ (slices1 : (List (List Bs))) : Option ((List Bs)) :=
  if slices1.length ≤ 1000000000 then forL (fun (k : Nat) (x : (List Bs)) (s : Int) => slices_Concat_L_string_string__L1 k x s) (fun (s : Int) => slices_Concat_L_string_string__E1 slices1 s) 0 slices1 0 else none
noncomputable def gateref2_MeetOf_J2 (out24 : (List Bs)) : Option ((List Bs) ⊕ ((List Bs))) :=
  some (.inl out24)
noncomputable def gateref2_MeetOf_J3 (l5 : (List Bs)) (x9 : Bs) (v21 : Bool) : Option ((List Bs) ⊕ ((List Bs))) :=
  if v21 then (if l5.length + 1 ≤ 1000000000 then (gateref2_MeetOf_J2 (l5 ++ [x9])) else none) else (gateref2_MeetOf_J2 l5)
noncomputable def gateref2_MeetOf_L1 (a1 : (List Bs)) (b2 : (List Bs)) (k6 : Nat) (x9 : Bs) (l5 : (List Bs)) : Option ((List Bs) ⊕ ((List Bs))) :=
  (m_gateref2_covered a1 x9).bind fun (r14 : (Bool)) => if r14 then ((m_gateref2_covered b2 x9).bind fun (r18 : (Bool)) => gateref2_MeetOf_J3 l5 x9 r18) else (gateref2_MeetOf_J3 l5 x9 false)
noncomputable def gateref2_MeetOf_E1 (l5 : (List Bs)) : Option ((List Bs)) :=
  (m_gateref2_LeastOf l5).bind fun (r10 : ((List Bs))) => some r10
noncomputable def m_gateref2_MeetOf (a1 : (List Bs)) (b2 : (List Bs)) : Option ((List Bs)) :=
  (m_slices_Concat_L_string_string_ [a1, b2]).bind fun (r3 : ((List Bs))) => if r3.length ≤ 1000000000 then forL (fun (k : Nat) (x : Bs) (s : (List Bs)) => gateref2_MeetOf_L1 a1 b2 k x s) (fun (s : (List Bs)) => gateref2_MeetOf_E1 s) 0 r3 [] else none
noncomputable def slices_Equal_L_string_string__L1 (s2 : (List Bs)) (k4 : Nat) (x7 : Bs) : Option (Unit ⊕ (Bool)) :=
  (s2[k4]?).bind fun (x10 : Bs) => if decide (x7 ≠ x10) then (some (.inr false)) else (some (.inl ()))
noncomputable def slices_Equal_L_string_string__E1 : Option (Bool) :=
  some true
noncomputable def m_slices_Equal_L_string_string_ (s1 : (List Bs)) (s2 : (List Bs)) : Option (Bool) :=
  if decide ((s1.length : Int) ≠ (s2.length : Int)) then some false else (if s1.length ≤ 1000000000 then forL (fun (k : Nat) (x : Bs) (s : Unit) => slices_Equal_L_string_string__L1 s2 k x) (fun (s : Unit) => slices_Equal_L_string_string__E1) 0 s1 () else none)
noncomputable def token_Encode_L4 (x6 : Int) (k11 : Nat) (l10 : (List Int)) : Option ((List Int) ⊕ ((Bs × (List Int)) ⊕ (Bs))) :=
  if (0 : Int) ≤ (wr (18 - (wr (6 * (k11 : Int))))) then ((at? [65, 66, 67, 68, 69, 70, 71, 72, 73, 74, 75, 76, 77, 78, 79, 80, 81, 82, 83, 84, 85, 86, 87, 88, 89, 90, 97, 98, 99, 100, 101, 102, 103, 104, 105, 106, 107, 108, 109, 110, 111, 112, 113, 114, 115, 116, 117, 118, 119, 120, 121, 122, 48, 49, 50, 51, 52, 53, 54, 55, 56, 57, 45, 95] (and_ .i64 (shr_ .i64 x6 (wr (18 - (wr (6 * (k11 : Int)))))) 63)).bind fun (x18 : UInt8) => if l10.length + 1 ≤ 1000000000 then (some (.inl (l10 ++ [(x18.toNat : Int)]))) else none) else none
noncomputable def token_Encode_E4 (s2 : Bs) (l10 : (List Int)) : Option ((Bs × (List Int)) ⊕ (Bs)) :=
  (sub? s2 (min 3 (s2.length : Int)) (s2.length : Int)).bind fun (l14 : Bs) => some (.inl (l14, l10))
noncomputable def token_Encode_J5 (x25 : Int) : Option (Int ⊕ ((Bs × (List Int)) ⊕ (Bs))) :=
  some (.inl x25)
noncomputable def token_Encode_L3 (s2 : Bs) (k7 : Nat) (x6 : Int) : Option (Int ⊕ ((Bs × (List Int)) ⊕ (Bs))) :=
  if decide ((k7 : Int) < (min 3 (s2.length : Int))) then ((s2[k7]?).bind fun (x23 : UInt8) => token_Encode_J5 (or_ .i64 (shl_ .i64 x6 8) (IntKind.wrap .i64 (x23.toNat : Int)))) else (token_Encode_J5 (shl_ .i64 x6 8))
noncomputable def token_Encode_E3 (s2 : Bs) (l3 : (List Int)) (x6 : Int) : Option ((Bs × (List Int)) ⊕ (Bs)) :=
  if (wr ((min 3 (s2.length : Int)) + 1)) ≤ 1000000000 then rng (fun (k : Nat) (s : (List Int)) => token_Encode_L4 x6 k s) (fun (s : (List Int)) => token_Encode_E4 s2 s) ((wr ((min 3 (s2.length : Int)) + 1)).toNat) 0 l3 else none
noncomputable def token_Encode_J1 (out26 : (List Int)) : Option (Bs) :=
  some (strN out26)
noncomputable def token_Encode_L2 (s2 : Bs) (l3 : (List Int)) : Option ((Bs × (List Int)) ⊕ (Bs)) :=
  if decide (0 < (s2.length : Int)) then (if 3 ≤ 1000000000 then rng (fun (k : Nat) (s : Int) => token_Encode_L3 s2 k s) (fun (s : Int) => token_Encode_E3 s2 l3 s) 3 0 0 else none) else (Option.map .inr (token_Encode_J1 l3))
noncomputable def m_token_Encode (s1 : Bs) : Option (Bs) :=
  iter (fun (s : Bs × (List Int)) => token_Encode_L2 s.1 s.2) (s1, [])
noncomputable def m_gatelaw2_signed  : Option (Bool) :=
  (m_token_Encode [97, 98]).bind fun (r1 : (Bs)) => some (decide (r1 = [89, 87, 73]))
noncomputable def gatelaw2_ScopesCover_J4 (v61 : Bool) : Option (Bool) :=
  some v61
noncomputable def gatelaw2_ScopesCover_J3 (r8 : ((List Bs) × Int)) (r10 : ((List Bs) × Int)) (v44 : (List Bs)) (v48 : (List Bs)) : Option (Bool) :=
  (m_slices_Equal_L_string_string_ r8.1 v44).bind fun (r49 : (Bool)) => if r49 then ((m_slices_Equal_L_string_string_ r10.1 v48).bind fun (r53 : (Bool)) => if r53 then ((m_gatelaw2_signed ).bind fun (r57 : (Bool)) => gatelaw2_ScopesCover_J4 r57) else (gatelaw2_ScopesCover_J4 false)) else (gatelaw2_ScopesCover_J4 false)
noncomputable def gatelaw2_ScopesCover_J2 (r2 : ((List Bs) × S_gatemake_Stream)) (r4 : ((List Bs) × S_gatemake_Stream)) (r8 : ((List Bs) × Int)) (r10 : ((List Bs) × Int)) (r18 : (Int)) (v44 : (List Bs)) : Option (Bool) :=
  if decide (r18 = 0) then ((m_gateref2_MeetOf r2.1 r4.1).bind fun (r46 : ((List Bs))) => gatelaw2_ScopesCover_J3 r8 r10 v44 r46) else (gatelaw2_ScopesCover_J3 r8 r10 v44 [])
noncomputable def gatelaw2_ScopesCover_J1 (r2 : ((List Bs) × S_gatemake_Stream)) (r4 : ((List Bs) × S_gatemake_Stream)) (r8 : ((List Bs) × Int)) (r10 : ((List Bs) × Int)) (r12 : (Int)) (r18 : (Int)) (v39 : Bool) : Option (Bool) :=
  if v39 then some false else (if decide (r12 = 0) then ((m_gateref2_LeastOf r2.1).bind fun (r42 : ((List Bs))) => gatelaw2_ScopesCover_J2 r2 r4 r8 r10 r18 r42) else (gatelaw2_ScopesCover_J2 r2 r4 r8 r10 r18 []))
noncomputable def m_gatelaw2_ScopesCover (v1 : (List Int)) : Option (Bool) :=
  (m_gatemake_Stream_Scopes (S_gatemake_Stream.mk v1 0)).bind fun (r2 : ((List Bs) × S_gatemake_Stream)) => (m_gatemake_Stream_Scopes r2.2).bind fun (r4 : ((List Bs) × S_gatemake_Stream)) => (m_token_Covers r2.1 r4.1).bind fun (r6 : (Bool × Int)) => (m_token_LeastScopes r2.1).bind fun (r8 : ((List Bs) × Int)) => (m_token_Meet r2.1 r4.1).bind fun (r10 : ((List Bs) × Int)) => (m_gateref2_ScopesFault r2.1).bind fun (r12 : (Int)) => (m_gateref2_ScopesFault r2.1).bind fun (r14 : (Int)) => (m_gateref2_ScopesFault r4.1).bind fun (r16 : (Int)) => (m_gatelaw2_errs [r14, r16]).bind fun (r18 : (Int)) => (m_token_CheckScopes r2.1).bind fun (r20 : (Int)) => if decide (r20 ≠ r12) then (gatelaw2_ScopesCover_J1 r2 r4 r8 r10 r12 r18 true) else (if decide (r6.2 ≠ r18) then (gatelaw2_ScopesCover_J1 r2 r4 r8 r10 r12 r18 true) else (if decide (r8.2 ≠ r12) then (gatelaw2_ScopesCover_J1 r2 r4 r8 r10 r12 r18 true) else (if decide (r10.2 ≠ r18) then (gatelaw2_ScopesCover_J1 r2 r4 r8 r10 r12 r18 true) else (if decide (r18 = 0) then ((m_gateref2_CoversOf r2.1 r4.1).bind fun (r32 : (Bool)) => gatelaw2_ScopesCover_J1 r2 r4 r8 r10 r12 r18 (r6.1 != r32)) else (gatelaw2_ScopesCover_J1 r2 r4 r8 r10 r12 r18 (r6.1 != false))))))
end Go.Proofs.YtpeeeanmfmhlgaaGreatDoor
