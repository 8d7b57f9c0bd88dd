/- Plain models of functions. Printed by a program. -/
import Derived.Test.YtpeeeanmfmhlgaaMc
import Derived.Test.YtpeeeanmfmhlgaaRng
namespace Go.Proofs.Ytpeeeanmfmhlgaa
set_option linter.unusedVariables false
set_option maxRecDepth 20000
structure S_gatemake_Stream where
  L : (List Int)
  at_ : Int
structure S_api_Signer where
  Id : Bs
  Secret : Bs
  From : Int
  To : Int
  Until : Int
structure S_api_Window where
  From : Int
  To : Int
noncomputable def gatemake_Below_J1 (x6 : Int) : Option (Int) :=
  some x6
noncomputable def m_gatemake_Below (x1 : Int) (n2 : Int) : Option (Int) :=
  if decide (n2 < 1) then some 0 else (if n2 ≠ 0 then (if decide ((Int.tmod x1 n2) < 0) then (gatemake_Below_J1 (wr ((Int.tmod x1 n2) + n2))) else (gatemake_Below_J1 (Int.tmod x1 n2))) else none)
noncomputable def m_gatemake_Stream_Next (s1 : S_gatemake_Stream) (n2 : Int) : Option (Int × S_gatemake_Stream) :=
  if decide ((s1.L.length : Int) = 0) then ((m_gatemake_Below (wr ((wr (s1.at_ + 1)) * 7919)) n2).bind fun (r4 : (Int)) => some (r4, (S_gatemake_Stream.mk s1.L (wr (s1.at_ + 1))))) else (if (s1.L.length : Int) ≠ 0 then (if ((0 : Int) ≤ (wr ((wr (s1.at_ + 1)) - 1)) ∧ (wr ((wr (s1.at_ + 1)) - 1)) ≤ 9223372036854775807) ∧ (0 : Int) < (s1.L.length : Int) then ((at? s1.L (Int.tmod (wr ((wr (s1.at_ + 1)) - 1)) (s1.L.length : Int))).bind fun (x8 : Int) => (m_gatemake_Below x8 1073741824).bind fun (r10 : (Int)) => (m_gatemake_Below (wr (r10 + (wr (((wr ((wr (s1.at_ + 1)) - 1)) / (s1.L.length : Int)) * (wr (7919 + (Int.tmod (wr ((wr (s1.at_ + 1)) - 1)) (s1.L.length : Int)))))))) n2).bind fun (r12 : (Int)) => some (r12, (S_gatemake_Stream.mk s1.L (wr (s1.at_ + 1))))) else none) else none)
noncomputable def m_gatemake_Stream_Range (s1 : S_gatemake_Stream) (low2 : Int) (high3 : Int) : Option (Int × S_gatemake_Stream) :=
  if decide (high3 < low2) then (some (low2, s1)) else ((m_gatemake_Stream_Next s1 (wr ((wr (high3 - low2)) + 1))).bind fun (r5 : (Int × S_gatemake_Stream)) => some (wr (low2 + r5.1), r5.2))
noncomputable def m_gatemake_Stream_Pick (s1 : S_gatemake_Stream) (l2 : (List Int)) : Option (Int × S_gatemake_Stream) :=
  (m_gatemake_Stream_Next s1 (l2.length : Int)).bind fun (r3 : (Int × S_gatemake_Stream)) => (at? l2 r3.1).bind fun (x5 : Int) => some (x5, r3.2)
noncomputable def m_gatemake_Stream_Some (s1 : S_gatemake_Stream) (l2 : (List Bs)) : Option (Bs × S_gatemake_Stream) :=
  (m_gatemake_Stream_Next s1 (l2.length : Int)).bind fun (r3 : (Int × S_gatemake_Stream)) => (at? l2 r3.1).bind fun (x5 : Bs) => some (x5, r3.2)
noncomputable def gatemake_Stream_RightSigners_L1 (k10 : Nat) (x13 : Bs) (v6 : Int) (c7 : (List Int)) (c8 : Int) (l9 : (List S_api_Signer)) : Option ((Int × (List Int) × Int × (List S_api_Signer)) ⊕ ((List S_api_Signer) × S_gatemake_Stream)) :=
  (m_gatemake_Stream_Pick (S_gatemake_Stream.mk c7 c8) [0, 10, 50, 100]).bind fun (r16 : (Int × S_gatemake_Stream)) => (m_gatemake_Stream_Some r16.2 ([[111, 110, 101], [116, 119, 111], [107, 33]])).bind fun (r18 : (Bs × S_gatemake_Stream)) => (m_gatemake_Stream_Pick r18.2 [0, 10, 100, 200]).bind fun (r20 : (Int × S_gatemake_Stream)) => (m_gatemake_Stream_Pick r20.2 [0, 5, 100, 1000]).bind fun (r22 : (Int × S_gatemake_Stream)) => if l9.length + 1 ≤ 1000000000 then (some (.inl (wr (v6 + r16.1), r22.2.L, r22.2.at_, (l9 ++ [(S_api_Signer.mk x13 r18.1 (wr (v6 + r16.1)) (wr ((wr (v6 + r16.1)) + r20.1)) (wr ((wr ((wr (v6 + r16.1)) + r20.1)) + r22.1)))])))) else none
noncomputable def gatemake_Stream_RightSigners_E1 (v6 : Int) (c7 : (List Int)) (c8 : Int) (l9 : (List S_api_Signer)) : Option ((List S_api_Signer) × S_gatemake_Stream) :=
  some (l9, (S_gatemake_Stream.mk c7 c8))
noncomputable def m_gatemake_Stream_RightSigners (s1 : S_gatemake_Stream) : Option ((List S_api_Signer) × S_gatemake_Stream) :=
  (m_gatemake_Stream_Range s1 0 3).bind fun (r2 : (Int × S_gatemake_Stream)) => (sub? ([[115, 49], [115, 50], [115, 51]]) 0 r2.1).bind fun (l4 : (List Bs)) => if l4.length ≤ 1000000000 then forL (fun (k : Nat) (x : Bs) (s : Int × (List Int) × Int × (List S_api_Signer)) => gatemake_Stream_RightSigners_L1 k x s.1 s.2.1 s.2.2.1 s.2.2.2) (fun (s : Int × (List Int) × Int × (List S_api_Signer)) => gatemake_Stream_RightSigners_E1 s.1 s.2.1 s.2.2.1 s.2.2.2) 0 l4 (0, r2.2.L, r2.2.at_, []) else none
noncomputable def m_gatemake_Stream_Flip (s1 : S_gatemake_Stream) (n2 : Int) : Option (Bool × S_gatemake_Stream) :=
  (m_gatemake_Stream_Next s1 n2).bind fun (r3 : (Int × S_gatemake_Stream)) => some (decide (r3.1 = 0), r3.2)
noncomputable def m_gatemake_Stream_Secret (s1 : S_gatemake_Stream) : Option (Bs × S_gatemake_Stream) :=
  (m_strings_Repeat [115] 101).bind fun (r2 : (Bs)) => (m_gatemake_Stream_Some s1 ([[111, 110, 101], [116, 119, 111], [116, 104, 114, 101, 101], [107, 33], [111, 110, 101], [], [97, 32, 98], [127], r2])).bind fun (r4 : (Bs × S_gatemake_Stream)) => some (r4.1, r4.2)
noncomputable def m_gatemake_Stream_Odd (s1 : S_gatemake_Stream) (low2 : Int) (high3 : Int) : Option (Int × S_gatemake_Stream) :=
  (m_gatemake_Stream_Flip s1 12).bind fun (r4 : (Bool × S_gatemake_Stream)) => if r4.1 then ((m_gatemake_Stream_Pick r4.2 [wr (low2 - 1), wr (high3 + 1), low2, high3, (-1099511627776), 1099511627776]).bind fun (r7 : (Int × S_gatemake_Stream)) => some (r7.1, r7.2)) else ((m_gatemake_Stream_Range r4.2 low2 high3).bind fun (r9 : (Int × S_gatemake_Stream)) => some (r9.1, r9.2))
noncomputable def gatemake_Stream_Signers_J1 (out29 : (List S_api_Signer)) (c30 : (List Int)) (c31 : Int) : Option ((List S_api_Signer) × S_gatemake_Stream) :=
  some (out29, (S_gatemake_Stream.mk c30 c31))
noncomputable def gatemake_Stream_Signers_J2 (r2 : ((List S_api_Signer) × S_gatemake_Stream)) (v9 : Bool) (c10 : (List Int)) (c11 : Int) : Option ((List S_api_Signer) × S_gatemake_Stream) :=
  if v9 then ((m_gatemake_Stream_Next (S_gatemake_Stream.mk c10 c11) (r2.1.length : Int)).bind fun (r13 : (Int × S_gatemake_Stream)) => (at? r2.1 r13.1).bind fun (x15 : S_api_Signer) => (m_gatemake_Stream_Next r13.2 3).bind fun (r17 : (Int × S_gatemake_Stream)) => if decide (r17.1 = 0) then ((m_gatemake_Stream_Some r17.2 ([[], [65], [115, 49]])).bind fun (r20 : (Bs × S_gatemake_Stream)) => gatemake_Stream_Signers_J1 (r2.1.set r13.1.toNat (S_api_Signer.mk r20.1 x15.Secret x15.From x15.To x15.Until)) r20.2.L r20.2.at_) else (if decide (r17.1 = 1) then ((m_gatemake_Stream_Secret r17.2).bind fun (r23 : (Bs × S_gatemake_Stream)) => gatemake_Stream_Signers_J1 (r2.1.set r13.1.toNat (S_api_Signer.mk x15.Id r23.1 x15.From x15.To x15.Until)) r23.2.L r23.2.at_) else ((m_gatemake_Stream_Odd r17.2 0 300).bind fun (r25 : (Int × S_gatemake_Stream)) => (m_gatemake_Stream_Odd r25.2 0 300).bind fun (r27 : (Int × S_gatemake_Stream)) => gatemake_Stream_Signers_J1 ((r2.1.set r13.1.toNat (S_api_Signer.mk x15.Id x15.Secret r25.1 x15.To x15.Until)).set r13.1.toNat (S_api_Signer.mk x15.Id x15.Secret r25.1 r27.1 x15.Until)) r27.2.L r27.2.at_))) else (gatemake_Stream_Signers_J1 r2.1 c10 c11)
noncomputable def m_gatemake_Stream_Signers (s1 : S_gatemake_Stream) : Option ((List S_api_Signer) × S_gatemake_Stream) :=
  (m_gatemake_Stream_RightSigners s1).bind fun (r2 : ((List S_api_Signer) × S_gatemake_Stream)) => if decide (0 < (r2.1.length : Int)) then ((m_gatemake_Stream_Flip r2.2 12).bind fun (r6 : (Bool × S_gatemake_Stream)) => gatemake_Stream_Signers_J2 r2 r6.1 r6.2.L r6.2.at_) else (gatemake_Stream_Signers_J2 r2 false r2.2.L r2.2.at_)
noncomputable def m_gatemake_Stream_Moment (s1 : S_gatemake_Stream) : Option (Int × S_gatemake_Stream) :=
  (m_gatemake_Stream_Pick s1 [0, 10, 49, 50, 60, 99, 100, 101, 149, 150, 200, 300, 1000, (-1), 345686400000]).bind fun (r2 : (Int × S_gatemake_Stream)) => some (r2.1, r2.2)
noncomputable def kit_IsKey_L1 (i2 : Nat) (x5 : UInt8) : Option (Unit ⊕ (Bool)) :=
  if !(((decide (97 ≤ (x5.toNat : Int))) && (decide ((x5.toNat : Int) ≤ 122))) || ((decide (0 < (i2 : Int))) && ((((decide (48 ≤ (x5.toNat : Int))) && (decide ((x5.toNat : Int) ≤ 57))) || (decide ((x5.toNat : Int) = 45))) || (decide ((x5.toNat : Int) = 95))))) then (some (.inr false)) else (some (.inl ()))
noncomputable def kit_IsKey_E1 (s1 : Bs) : Option (Bool) :=
  some ((decide (s1 ≠ [])) && (decide ((s1.length : Int) ≤ 40)))
noncomputable def m_kit_IsKey (s1 : Bs) : Option (Bool) :=
  if s1.length ≤ 1000000000 then forL (fun (k : Nat) (x : UInt8) (s : Unit) => kit_IsKey_L1 k x) (fun (s : Unit) => kit_IsKey_E1 s1) 0 s1 () else none
noncomputable def slices_IndexFunc_L_api_Signer_api_Signer__L1 (p1 : S_api_Signer → Option (Bool)) (k2 : Nat) (x5 : S_api_Signer) : Option (Unit ⊕ (Int)) :=
  (p1 x5).bind fun (r8 : Bool) => if r8 then (some (.inr (k2 : Int))) else (some (.inl ()))
noncomputable def slices_IndexFunc_L_api_Signer_api_Signer__E1 : Option (Int) :=
  some (-1)
noncomputable def m_slices_IndexFunc_L_api_Signer_api_Signer_ (s1 : (List S_api_Signer)) (p1 : S_api_Signer → Option (Bool)) : Option (Int) :=
  if s1.length ≤ 1000000000 then forL (fun (k : Nat) (x : S_api_Signer) (s : Unit) => slices_IndexFunc_L_api_Signer_api_Signer__L1 p1 k x) (fun (s : Unit) => slices_IndexFunc_L_api_Signer_api_Signer__E1) 0 s1 () else none
noncomputable def m_slices_ContainsFunc_L_api_Signer_api_Signer_ (s1 : (List S_api_Signer)) (p1 : S_api_Signer → Option (Bool)) : Option (Bool) :=
  (m_slices_IndexFunc_L_api_Signer_api_Signer_ s1 p1).bind fun (r2 : (Int)) => some (decide (0 ≤ r2))
noncomputable def m_token_signerFault_1 (o1 : S_api_Signer) (c2 : S_api_Signer) : Option (Bool) :=
  some (decide (o1.Id = c2.Id))
noncomputable def token_secretFault_J2 (v13 : Bool) : Option (Unit ⊕ (Int)) :=
  if v13 then (some (.inr 3)) else (some (.inl ()))
noncomputable def token_secretFault_L1 (k2 : Nat) (x5 : UInt8) : Option (Unit ⊕ (Int)) :=
  if decide ((x5.toNat : Int) < 33) then (token_secretFault_J2 true) else (token_secretFault_J2 (decide (126 < (x5.toNat : Int))))
noncomputable def token_secretFault_E1 (s1 : Bs) : Option (Int) :=
  if decide (s1 = []) then some 3 else (if decide (100 < (s1.length : Int)) then some 2 else some 0)
noncomputable def m_token_secretFault (s1 : Bs) : Option (Int) :=
  if s1.length ≤ 1000000000 then forL (fun (k : Nat) (x : UInt8) (s : Unit) => token_secretFault_L1 k x) (fun (s : Unit) => token_secretFault_E1 s1) 0 s1 () else none
noncomputable def m_kit_Outside (n1 : Int) (low2 : Int) (high3 : Int) : Option (Bool) :=
  some ((decide (n1 < low2)) || (decide (high3 < n1)))
noncomputable def token_signerFault_J1 (v24 : Bool) : Option (Int) :=
  if v24 then some 7 else some 0
noncomputable def m_token_signerFault (l1 : (List S_api_Signer)) (i2 : Int) : Option (Int) :=
  (at? l1 i2).bind fun (x3 : S_api_Signer) => (m_kit_IsKey x3.Id).bind fun (r5 : (Bool)) => if !r5 then some 5 else ((sub? l1 0 i2).bind fun (l8 : (List S_api_Signer)) => (m_slices_ContainsFunc_L_api_Signer_api_Signer_ l8 (fun (a0 : S_api_Signer) => m_token_signerFault_1 a0 x3)).bind fun (r10 : (Bool)) => if r10 then some 6 else ((m_token_secretFault x3.Secret).bind fun (r13 : (Int)) => if decide (r13 ≠ 0) then some r13 else ((m_kit_Outside x3.From 0 x3.To).bind fun (r16 : (Bool)) => if ((r16 || (decide (x3.Until < x3.To))) || (decide (345686400000 < x3.Until))) then some 1 else (if decide (0 < i2) then ((at? l1 (wr (i2 - 1))).bind fun (x21 : S_api_Signer) => token_signerFault_J1 (decide (x3.From < x21.From))) else (token_signerFault_J1 false)))))
noncomputable def token_CheckSigners_L1 (l1 : (List S_api_Signer)) (k3 : Nat) (x6 : S_api_Signer) : Option (Unit ⊕ (Int)) :=
  (m_token_signerFault l1 (k3 : Int)).bind fun (r9 : (Int)) => if decide (r9 ≠ 0) then (some (.inr r9)) else (some (.inl ()))
noncomputable def token_CheckSigners_E1 : Option (Int) :=
  some 0
noncomputable def m_token_CheckSigners (l1 : (List S_api_Signer)) : Option (Int) :=
  if decide (50 < (l1.length : Int)) then some 2 else (if l1.length ≤ 1000000000 then forL (fun (k : Nat) (x : S_api_Signer) (s : Unit) => token_CheckSigners_L1 l1 k x) (fun (s : Unit) => token_CheckSigners_E1) 0 l1 () else none)
noncomputable def m_kit_IsMoment (n1 : Int) : Option (Bool) :=
  some ((decide (0 ≤ n1)) && (decide (n1 < 345686400000)))
noncomputable def m_token_momentFault (v1 : Int) : Option (Int) :=
  (m_kit_IsMoment v1).bind fun (r2 : (Bool)) => if !r2 then some 1 else some 0
noncomputable def token_signerAt_L1 (v2 : Int) (k5 : Nat) (x6 : S_api_Signer) : Option (Unit ⊕ (S_api_Signer × Bool)) :=
  if ((decide (x6.From ≤ v2)) && (decide (v2 < x6.To))) then (some (.inr (x6, true))) else (some (.inl ()))
noncomputable def token_signerAt_E1 : Option (S_api_Signer × Bool) :=
  some ((S_api_Signer.mk [] [] 0 0 0), false)
noncomputable def m_token_signerAt (l1 : (List S_api_Signer)) (v2 : Int) : Option (S_api_Signer × Bool) :=
  if l1.length ≤ 1000000000 then back (fun (k : Nat) (x : S_api_Signer) (s : Unit) => token_signerAt_L1 v2 k x) (fun (s : Unit) => token_signerAt_E1) l1 l1.length () else none
noncomputable def m_token_SignerAt (l1 : (List S_api_Signer)) (v2 : Int) : Option (Bs × Int) :=
  (m_token_CheckSigners l1).bind fun (r3 : (Int)) => if decide (r3 ≠ 0) then (some ([], r3)) else ((m_token_momentFault v2).bind fun (r6 : (Int)) => if decide (r6 ≠ 0) then (some ([], r6)) else ((m_token_signerAt l1 v2).bind fun (r9 : (S_api_Signer × Bool)) => if !r9.2 then (some ([], 8)) else (some (r9.1.Id, 0))))
noncomputable def token_Uncovered_J5 (v28 : Int) (v55 : (List S_api_Window)) : Option ((Int × (List S_api_Window)) ⊕ ((List S_api_Window) × Int)) :=
  some (.inl (wr (v28 + 1), v55))
noncomputable def token_Uncovered_J7 (r26 : ((List Int))) (v28 : Int) (l29 : (List S_api_Window)) (x32 : Int) (v46 : Bool) : Option ((Int × (List S_api_Window)) ⊕ ((List S_api_Window) × Int)) :=
  if v46 then ((at? r26 (wr (v28 + 1))).bind fun (x48 : Int) => (at? l29 (wr ((l29.length : Int) - 1))).bind fun (x50 : S_api_Window) => token_Uncovered_J5 v28 (l29.set ((wr ((l29.length : Int) - 1)).toNat) (S_api_Window.mk x50.From x48))) else ((at? r26 (wr (v28 + 1))).bind fun (x52 : Int) => if l29.length + 1 ≤ 1000000000 then (token_Uncovered_J5 v28 (l29 ++ [(S_api_Window.mk x32 x52)])) else none)
noncomputable def token_Uncovered_J6 (r26 : ((List Int))) (v28 : Int) (l29 : (List S_api_Window)) (x32 : Int) (v39 : Bool) : Option ((Int × (List S_api_Window)) ⊕ ((List S_api_Window) × Int)) :=
  if v39 then (token_Uncovered_J5 v28 l29) else (if decide (0 ≤ (wr ((l29.length : Int) - 1))) then ((at? l29 (wr ((l29.length : Int) - 1))).bind fun (x43 : S_api_Window) => token_Uncovered_J7 r26 v28 l29 x32 (decide (x43.To = x32))) else (token_Uncovered_J7 r26 v28 l29 x32 false))
noncomputable def token_Uncovered_J3 (v56 : (List S_api_Window)) : Option ((List S_api_Window) × Int) :=
  some (v56, 0)
noncomputable def token_Uncovered_L4 (v1 : (List S_api_Signer)) (v3 : Int) (r26 : ((List Int))) (v28 : Int) (l29 : (List S_api_Window)) : Option ((Int × (List S_api_Window)) ⊕ ((List S_api_Window) × Int)) :=
  if decide ((wr (v28 + 1)) < (r26.length : Int)) then ((at? r26 v28).bind fun (x32 : Int) => (m_token_signerAt v1 x32).bind fun (r34 : (S_api_Signer × Bool)) => if r34.2 then (token_Uncovered_J6 r26 v28 l29 x32 (decide ((wr (x32 + v3)) ≤ r34.1.Until))) else (token_Uncovered_J6 r26 v28 l29 x32 false)) else (Option.map .inr (token_Uncovered_J3 l29))
noncomputable def token_Uncovered_J9 (v68 : (List Int)) : Option ((List Int) ⊕ ((List Int) ⊕ ((List S_api_Window) × Int))) :=
  some (.inl v68)
noncomputable def token_Uncovered_L8 (v2 : S_api_Window) (k60 : Nat) (x63 : Int) (l59 : (List Int)) : Option ((List Int) ⊕ ((List Int) ⊕ ((List S_api_Window) × Int))) :=
  if ((decide (v2.From < x63)) && (decide (x63 < v2.To))) then (if l59.length + 1 ≤ 1000000000 then (token_Uncovered_J9 (l59 ++ [x63])) else none) else (token_Uncovered_J9 l59)
noncomputable def token_Uncovered_E8 (l59 : (List Int)) : Option ((List Int) ⊕ ((List S_api_Window) × Int)) :=
  some (.inl l59)
noncomputable def token_Uncovered_L2 (v2 : S_api_Window) (v3 : Int) (k20 : Nat) (x23 : S_api_Signer) (l19 : (List Int)) : Option ((List Int) ⊕ ((List S_api_Window) × Int)) :=
  if [x23.From, x23.To, wr ((wr (x23.Until - v3)) + 1)].length ≤ 1000000000 then forL (fun (k : Nat) (x : Int) (s : (List Int)) => token_Uncovered_L8 v2 k x s) (fun (s : (List Int)) => token_Uncovered_E8 s) 0 [x23.From, x23.To, wr ((wr (x23.Until - v3)) + 1)] l19 else none
noncomputable def token_Uncovered_E2 (v1 : (List S_api_Signer)) (v3 : Int) (l19 : (List Int)) : Option ((List S_api_Window) × Int) :=
  (m_slices_Sort_int l19).bind fun (r24 : (List Int)) => (m_slices_Compact_int r24).bind fun (r26 : ((List Int))) => iter (fun (s : Int × (List S_api_Window)) => token_Uncovered_L4 v1 v3 r26 s.1 s.2) (0, [])
noncomputable def token_Uncovered_J1 (v1 : (List S_api_Signer)) (v2 : S_api_Window) (v3 : Int) (v17 : Bool) : Option ((List S_api_Window) × Int) :=
  if v17 then (some ([], 1)) else (if v1.length ≤ 1000000000 then forL (fun (k : Nat) (x : S_api_Signer) (s : (List Int)) => token_Uncovered_L2 v2 v3 k x s) (fun (s : (List Int)) => token_Uncovered_E2 v1 v3 s) 0 v1 ([v2.From, v2.To] : (List Int)) else none)
noncomputable def m_token_Uncovered (v1 : (List S_api_Signer)) (v2 : S_api_Window) (v3 : Int) : Option ((List S_api_Window) × Int) :=
  (m_token_CheckSigners v1).bind fun (r4 : (Int)) => if decide (r4 ≠ 0) then (some ([], r4)) else ((m_kit_Outside v2.From 0 v2.To).bind fun (r7 : (Bool)) => if r7 then (token_Uncovered_J1 v1 v2 v3 true) else (if decide (345686400000 < v2.To) then (token_Uncovered_J1 v1 v2 v3 true) else ((m_kit_Outside v3 0 345686400000).bind fun (r13 : (Bool)) => token_Uncovered_J1 v1 v2 v3 r13)))
noncomputable def m_gateref2_in (n1 : Int) (low2 : Int) (high3 : Int) : Option (Bool) :=
  some ((decide (low2 ≤ n1)) && (decide (n1 ≤ high3)))
noncomputable def gateref2_only_L1 (some2 : Bs) (k3 : Nat) (x6 : UInt8) : Option (Unit ⊕ (Bool)) :=
  (m_strings_IndexByte some2 (x6.toNat : Int)).bind fun (r9 : (Int)) => if decide (r9 < 0) then (some (.inr false)) else (some (.inl ()))
noncomputable def gateref2_only_E1 : Option (Bool) :=
  some true
noncomputable def m_gateref2_only (s1 : Bs) (some2 : Bs) : Option (Bool) :=
  if s1.length ≤ 1000000000 then forL (fun (k : Nat) (x : UInt8) (s : Unit) => gateref2_only_L1 some2 k x) (fun (s : Unit) => gateref2_only_E1) 0 s1 () else none
noncomputable def gateref2_Key_J1 (v16 : Bool) : Option (Bool) :=
  some v16
noncomputable def m_gateref2_Key (s1 : Bs) : Option (Bool) :=
  (m_gateref2_in (s1.length : Int) 1 40).bind fun (r2 : (Bool)) => if r2 then ((sub? s1 0 1).bind fun (l6 : Bs) => (m_gateref2_only l6 [97, 98, 99, 100, 101, 102, 103, 104, 105, 106, 107, 108, 109, 110, 111, 112, 113, 114, 115, 116, 117, 118, 119, 120, 121, 122]).bind fun (r8 : (Bool)) => if r8 then ((m_gateref2_only s1 [97, 98, 99, 100, 101, 102, 103, 104, 105, 106, 107, 108, 109, 110, 111, 112, 113, 114, 115, 116, 117, 118, 119, 120, 121, 122, 48, 49, 50, 51, 52, 53, 54, 55, 56, 57, 45, 95]).bind fun (r12 : (Bool)) => gateref2_Key_J1 r12) else (gateref2_Key_J1 false)) else (gateref2_Key_J1 false)
noncomputable def m_gateref2_SignersFault_1 (o1 : S_api_Signer) (c2 : S_api_Signer) : Option (Bool) :=
  some (decide (o1.Id = c2.Id))
noncomputable def gateref2_visible_J2 (v12 : Bool) : Option (Unit ⊕ (Bool)) :=
  if v12 then (some (.inr false)) else (some (.inl ()))
noncomputable def gateref2_visible_L1 (low2 : Int) (k3 : Nat) (x6 : UInt8) : Option (Unit ⊕ (Bool)) :=
  if decide ((x6.toNat : Int) < low2) then (gateref2_visible_J2 true) else (gateref2_visible_J2 (decide (126 < (x6.toNat : Int))))
noncomputable def gateref2_visible_E1 : Option (Bool) :=
  some true
noncomputable def m_gateref2_visible (s1 : Bs) (low2 : Int) : Option (Bool) :=
  if s1.length ≤ 1000000000 then forL (fun (k : Nat) (x : UInt8) (s : Unit) => gateref2_visible_L1 low2 k x) (fun (s : Unit) => gateref2_visible_E1) 0 s1 () else none
noncomputable def gateref2_SecretFault_J1 (s1 : Bs) (v7 : Bool) : Option (Int) :=
  if v7 then some 3 else (if decide (100 < (s1.length : Int)) then some 2 else some 0)
noncomputable def m_gateref2_SecretFault (s1 : Bs) : Option (Int) :=
  if decide (s1 = []) then (gateref2_SecretFault_J1 s1 true) else ((m_gateref2_visible s1 33).bind fun (r4 : (Bool)) => gateref2_SecretFault_J1 s1 (!r4))
noncomputable def gateref2_SignersFault_J2 (v28 : Bool) : Option (Unit ⊕ (Int)) :=
  if v28 then (some (.inr 7)) else (some (.inl ()))
noncomputable def gateref2_SignersFault_L1 (v1 : (List S_api_Signer)) (k3 : Nat) (x6 : S_api_Signer) : Option (Unit ⊕ (Int)) :=
  (m_gateref2_Key x6.Id).bind fun (r9 : (Bool)) => if !r9 then (some (.inr 5)) else ((sub? v1 0 (k3 : Int)).bind fun (l12 : (List S_api_Signer)) => (m_slices_ContainsFunc_L_api_Signer_api_Signer_ l12 (fun (a0 : S_api_Signer) => m_gateref2_SignersFault_1 a0 x6)).bind fun (r14 : (Bool)) => if r14 then (some (.inr 6)) else ((m_gateref2_SecretFault x6.Secret).bind fun (r17 : (Int)) => if decide (r17 ≠ 0) then (some (.inr r17)) else ((m_gateref2_in x6.From 0 x6.To).bind fun (r20 : (Bool)) => if (((!r20) || (decide (x6.Until < x6.To))) || (decide (345686400000 < x6.Until))) then (some (.inr 1)) else (if decide (0 < (k3 : Int)) then ((at? v1 ((k3 : Int) - 1)).bind fun (x25 : S_api_Signer) => gateref2_SignersFault_J2 (decide (x6.From < x25.From))) else (gateref2_SignersFault_J2 false)))))
noncomputable def gateref2_SignersFault_E1 : Option (Int) :=
  some 0
noncomputable def m_gateref2_SignersFault (v1 : (List S_api_Signer)) : Option (Int) :=
  if decide (50 < (v1.length : Int)) then some 2 else (if v1.length ≤ 1000000000 then forL (fun (k : Nat) (x : S_api_Signer) (s : Unit) => gateref2_SignersFault_L1 v1 k x) (fun (s : Unit) => gateref2_SignersFault_E1) 0 v1 () else none)
noncomputable def m_gateref2_Moment (v1 : Int) : Option (Bool) :=
  (m_gateref2_in v1 0 345686399999).bind fun (r2 : (Bool)) => some r2
noncomputable def m_gatelaw2_when (is1 : Bool) (e2 : Int) : Option (Int) :=
  if is1 then some e2 else some 0
noncomputable def m_gatelaw2_momentFault (v1 : Int) : Option (Int) :=
  (m_gateref2_Moment v1).bind fun (r2 : (Bool)) => (m_gatelaw2_when (!r2) 1).bind fun (r4 : (Int)) => some r4
noncomputable def gatelaw2_errs_L1 (k2 : Nat) (x5 : Int) : Option (Unit ⊕ (Int)) :=
  if decide (x5 ≠ 0) then (some (.inr x5)) else (some (.inl ()))
noncomputable def gatelaw2_errs_E1 : Option (Int) :=
  some 0
noncomputable def m_gatelaw2_errs (l1 : (List Int)) : Option (Int) :=
  if l1.length ≤ 1000000000 then forL (fun (k : Nat) (x : Int) (s : Unit) => gatelaw2_errs_L1 k x) (fun (s : Unit) => gatelaw2_errs_E1) 0 l1 () else none
noncomputable def gateref2_SignerOf_L1 (v2 : Int) (k5 : Nat) (x6 : S_api_Signer) : Option (Unit ⊕ (S_api_Signer × Bool)) :=
  if ((decide (x6.From ≤ v2)) && (decide (v2 < x6.To))) then (some (.inr (x6, true))) else (some (.inl ()))
noncomputable def gateref2_SignerOf_E1 : Option (S_api_Signer × Bool) :=
  some ((S_api_Signer.mk [] [] 0 0 0), false)
noncomputable def m_gateref2_SignerOf (l1 : (List S_api_Signer)) (v2 : Int) : Option (S_api_Signer × Bool) :=
  if l1.length ≤ 1000000000 then back (fun (k : Nat) (x : S_api_Signer) (s : Unit) => gateref2_SignerOf_L1 v2 k x) (fun (s : Unit) => gateref2_SignerOf_E1) l1 l1.length () else none
noncomputable def gateref2_UncoveredOf_J4 (v11 : Int) (v32 : (List S_api_Window)) : Option ((Int × (List S_api_Window)) ⊕ ((List S_api_Window))) :=
  some (.inl (wr (v11 + 1), v32))
noncomputable def gateref2_UncoveredOf_J5 (v11 : Int) (l12 : (List S_api_Window)) (x15 : Int) (x17 : Int) (v27 : Bool) : Option ((Int × (List S_api_Window)) ⊕ ((List S_api_Window))) :=
  if v27 then ((at? l12 (wr ((l12.length : Int) - 1))).bind fun (x29 : S_api_Window) => gateref2_UncoveredOf_J4 v11 (l12.set ((wr ((l12.length : Int) - 1)).toNat) (S_api_Window.mk x29.From x17))) else (if l12.length + 1 ≤ 1000000000 then (gateref2_UncoveredOf_J4 v11 (l12 ++ [(S_api_Window.mk x15 x17)])) else none)
noncomputable def gateref2_UncoveredOf_J2 (v33 : (List S_api_Window)) : Option ((List S_api_Window)) :=
  some v33
noncomputable def gateref2_UncoveredOf_L3 (v1 : (List S_api_Signer)) (v3 : Int) (r9 : (List Int)) (v11 : Int) (l12 : (List S_api_Window)) : Option ((Int × (List S_api_Window)) ⊕ ((List S_api_Window))) :=
  if decide (v11 < (r9.length : Int)) then ((at? r9 (wr (v11 - 1))).bind fun (x15 : Int) => (at? r9 v11).bind fun (x17 : Int) => (m_gateref2_SignerOf v1 x15).bind fun (r19 : (S_api_Signer × Bool)) => if ((decide (x15 = x17)) || (r19.2 && (decide ((wr (x15 + v3)) ≤ r19.1.Until)))) then (gateref2_UncoveredOf_J4 v11 l12) else (if decide (0 ≤ (wr ((l12.length : Int) - 1))) then ((at? l12 (wr ((l12.length : Int) - 1))).bind fun (x24 : S_api_Window) => gateref2_UncoveredOf_J5 v11 l12 x15 x17 (decide (x24.To = x15))) else (gateref2_UncoveredOf_J5 v11 l12 x15 x17 false))) else (Option.map .inr (gateref2_UncoveredOf_J2 l12))
noncomputable def gateref2_UncoveredOf_J7 (v47 : (List Int)) : Option ((List Int) ⊕ ((List Int) ⊕ ((List S_api_Window)))) :=
  some (.inl v47)
noncomputable def gateref2_UncoveredOf_L6 (v2 : S_api_Window) (k37 : Nat) (x40 : Int) (l36 : (List Int)) : Option ((List Int) ⊕ ((List Int) ⊕ ((List S_api_Window)))) :=
  (m_gateref2_in x40 v2.From v2.To).bind fun (r43 : (Bool)) => if r43 then (if l36.length + 1 ≤ 1000000000 then (gateref2_UncoveredOf_J7 (l36 ++ [x40])) else none) else (gateref2_UncoveredOf_J7 l36)
noncomputable def gateref2_UncoveredOf_E6 (l36 : (List Int)) : Option ((List Int) ⊕ ((List S_api_Window))) :=
  some (.inl l36)
noncomputable def gateref2_UncoveredOf_L1 (v2 : S_api_Window) (v3 : Int) (k5 : Nat) (x8 : S_api_Signer) (l4 : (List Int)) : Option ((List Int) ⊕ ((List S_api_Window))) :=
  if [x8.From, x8.To, wr ((wr (x8.Until - v3)) + 1)].length ≤ 1000000000 then forL (fun (k : Nat) (x : Int) (s : (List Int)) => gateref2_UncoveredOf_L6 v2 k x s) (fun (s : (List Int)) => gateref2_UncoveredOf_E6 s) 0 [x8.From, x8.To, wr ((wr (x8.Until - v3)) + 1)] l4 else none
noncomputable def gateref2_UncoveredOf_E1 (v1 : (List S_api_Signer)) (v3 : Int) (l4 : (List Int)) : Option ((List S_api_Window)) :=
  (m_slices_Sort_int l4).bind fun (r9 : (List Int)) => iter (fun (s : Int × (List S_api_Window)) => gateref2_UncoveredOf_L3 v1 v3 r9 s.1 s.2) (1, [])
noncomputable def m_gateref2_UncoveredOf (v1 : (List S_api_Signer)) (v2 : S_api_Window) (v3 : Int) : Option ((List S_api_Window)) :=
  if v1.length ≤ 1000000000 then forL (fun (k : Nat) (x : S_api_Signer) (s : (List Int)) => gateref2_UncoveredOf_L1 v2 v3 k x s) (fun (s : (List Int)) => gateref2_UncoveredOf_E1 v1 v3 s) 0 v1 ([v2.From, v2.To] : (List Int)) else none
noncomputable def slices_Equal_L_api_Window_api_Window__L1 (s2 : (List S_api_Window)) (k4 : Nat) (x7 : S_api_Window) : Option (Unit ⊕ (Bool)) :=
  (s2[k4]?).bind fun (x10 : S_api_Window) => if (!((x7.From == x10.From) && ((x7.To == x10.To) && true))) then (some (.inr false)) else (some (.inl ()))
noncomputable def slices_Equal_L_api_Window_api_Window__E1 : Option (Bool) :=
  some true
noncomputable def m_slices_Equal_L_api_Window_api_Window_ (s1 : (List S_api_Window)) (s2 : (List S_api_Window)) : Option (Bool) :=
  if decide ((s1.length : Int) ≠ (s2.length : Int)) then some false else (if s1.length ≤ 1000000000 then forL (fun (k : Nat) (x : S_api_Window) (s : Unit) => slices_Equal_L_api_Window_api_Window__L1 s2 k x) (fun (s : Unit) => slices_Equal_L_api_Window_api_Window__E1) 0 s1 () else none)
noncomputable def token_Encode_L4 (x6 : Int) (k11 : Nat) (l10 : (List Int)) : Option ((List Int) ⊕ ((Bs × (List Int)) ⊕ (Bs))) :=
  if (0 : Int) ≤ (wr (18 - (wr (6 * (k11 : Int))))) then ((at? [65, 66, 67, 68, 69, 70, 71, 72, 73, 74, 75, 76, 77, 78, 79, 80, 81, 82, 83, 84, 85, 86, 87, 88, 89, 90, 97, 98, 99, 100, 101, 102, 103, 104, 105, 106, 107, 108, 109, 110, 111, 112, 113, 114, 115, 116, 117, 118, 119, 120, 121, 122, 48, 49, 50, 51, 52, 53, 54, 55, 56, 57, 45, 95] (and_ .i64 (shr_ .i64 x6 (wr (18 - (wr (6 * (k11 : Int)))))) 63)).bind fun (x18 : UInt8) => if l10.length + 1 ≤ 1000000000 then (some (.inl (l10 ++ [(x18.toNat : Int)]))) else none) else none
noncomputable def token_Encode_E4 (s2 : Bs) (l10 : (List Int)) : Option ((Bs × (List Int)) ⊕ (Bs)) :=
  (sub? s2 (min 3 (s2.length : Int)) (s2.length : Int)).bind fun (l14 : Bs) => some (.inl (l14, l10))
noncomputable def token_Encode_J5 (x25 : Int) : Option (Int ⊕ ((Bs × (List Int)) ⊕ (Bs))) :=
  some (.inl x25)
noncomputable def token_Encode_L3 (s2 : Bs) (k7 : Nat) (x6 : Int) : Option (Int ⊕ ((Bs × (List Int)) ⊕ (Bs))) :=
  if decide ((k7 : Int) < (min 3 (s2.length : Int))) then ((s2[k7]?).bind fun (x23 : UInt8) => token_Encode_J5 (or_ .i64 (shl_ .i64 x6 8) (IntKind.wrap .i64 (x23.toNat : Int)))) else (token_Encode_J5 (shl_ .i64 x6 8))
noncomputable def token_Encode_E3 (s2 : Bs) (l3 : (List Int)) (x6 : Int) : Option ((Bs × (List Int)) ⊕ (Bs)) :=
  if (wr ((min 3 (s2.length : Int)) + 1)) ≤ 1000000000 then rng (fun (k : Nat) (s : (List Int)) => token_Encode_L4 x6 k s) (fun (s : (List Int)) => token_Encode_E4 s2 s) ((wr ((min 3 (s2.length : Int)) + 1)).toNat) 0 l3 else none
noncomputable def token_Encode_J1 (out26 : (List Int)) : Option (Bs) :=
  some (strN out26)
noncomputable def token_Encode_L2 (s2 : Bs) (l3 : (List Int)) : Option ((Bs × (List Int)) ⊕ (Bs)) :=
  if decide (0 < (s2.length : Int)) then (if 3 ≤ 1000000000 then rng (fun (k : Nat) (s : Int) => token_Encode_L3 s2 k s) (fun (s : Int) => token_Encode_E3 s2 l3 s) 3 0 0 else none) else (Option.map .inr (token_Encode_J1 l3))
noncomputable def m_token_Encode (s1 : Bs) : Option (Bs) :=
  iter (fun (s : Bs × (List Int)) => token_Encode_L2 s.1 s.2) (s1, [])
noncomputable def m_gatelaw2_signed  : Option (Bool) :=
  (m_token_Encode [97, 98]).bind fun (r1 : (Bs)) => some (decide (r1 = [89, 87, 73]))
noncomputable def gatelaw2_SignersSign_J4 (v67 : Bool) : Option (Bool) :=
  some v67
noncomputable def gatelaw2_SignersSign_J3 (r21 : (Bs × Int)) (r23 : ((List S_api_Window) × Int)) (v39 : Int) (v40 : Bs) (r45 : (Int)) (v50 : (List S_api_Window)) : Option (Bool) :=
  if decide (r21.2 = v39) then (if decide (r21.1 = v40) then (if decide (r23.2 = r45) then ((m_slices_Equal_L_api_Window_api_Window_ r23.1 v50).bind fun (r57 : (Bool)) => if r57 then ((m_gatelaw2_signed ).bind fun (r61 : (Bool)) => gatelaw2_SignersSign_J4 r61) else (gatelaw2_SignersSign_J4 false)) else (gatelaw2_SignersSign_J4 false)) else (gatelaw2_SignersSign_J4 false)) else (gatelaw2_SignersSign_J4 false)
noncomputable def gatelaw2_SignersSign_J2 (r2 : ((List S_api_Signer) × S_gatemake_Stream)) (r6 : (Int × S_gatemake_Stream)) (c19 : Int) (c20 : Int) (r21 : (Bs × Int)) (r23 : ((List S_api_Window) × Int)) (r25 : (Int)) (v39 : Int) (v40 : Bs) : Option (Bool) :=
  (m_gatelaw2_when (((decide (c19 < 0)) || (decide (c20 < c19))) || (decide (345686400000 < c20))) 1).bind fun (r41 : (Int)) => (m_gatelaw2_when ((decide (r6.1 < 0)) || (decide (345686400000 < r6.1))) 1).bind fun (r43 : (Int)) => (m_gatelaw2_errs [r25, r41, r43]).bind fun (r45 : (Int)) => if decide (r45 = 0) then ((m_gateref2_UncoveredOf r2.1 (S_api_Window.mk c19 c20) r6.1).bind fun (r48 : ((List S_api_Window))) => gatelaw2_SignersSign_J3 r21 r23 v39 v40 r45 r48) else (gatelaw2_SignersSign_J3 r21 r23 v39 v40 r45 [])
noncomputable def gatelaw2_SignersSign_J1 (r2 : ((List S_api_Signer) × S_gatemake_Stream)) (r4 : (Int × S_gatemake_Stream)) (r6 : (Int × S_gatemake_Stream)) (c19 : Int) (c20 : Int) : Option (Bool) :=
  (m_token_SignerAt r2.1 r4.1).bind fun (r21 : (Bs × Int)) => (m_token_Uncovered r2.1 (S_api_Window.mk c19 c20) r6.1).bind fun (r23 : ((List S_api_Window) × Int)) => (m_gateref2_SignersFault r2.1).bind fun (r25 : (Int)) => (m_token_CheckSigners r2.1).bind fun (r27 : (Int)) => if decide (r27 ≠ r25) then some false else ((m_gatelaw2_momentFault r4.1).bind fun (r30 : (Int)) => (m_gatelaw2_errs [r25, r30]).bind fun (r32 : (Int)) => if decide (r32 = 0) then ((m_gateref2_SignerOf r2.1 r4.1).bind fun (r35 : (S_api_Signer × Bool)) => (m_gatelaw2_when (!r35.2) 8).bind fun (r37 : (Int)) => gatelaw2_SignersSign_J2 r2 r6 c19 c20 r21 r23 r25 r37 r35.1.Id) else (gatelaw2_SignersSign_J2 r2 r6 c19 c20 r21 r23 r25 r32 []))
noncomputable def m_gatelaw2_SignersSign (v1 : (List Int)) : Option (Bool) :=
  (m_gatemake_Stream_Signers (S_gatemake_Stream.mk v1 0)).bind fun (r2 : ((List S_api_Signer) × S_gatemake_Stream)) => (m_gatemake_Stream_Moment r2.2).bind fun (r4 : (Int × S_gatemake_Stream)) => (m_gatemake_Stream_Pick r4.2 [0, 1, 5, 50, 100, 1000, (-1), 345686400001]).bind fun (r6 : (Int × S_gatemake_Stream)) => (m_gatemake_Stream_Pick r6.2 [0, 10, 60]).bind fun (r8 : (Int × S_gatemake_Stream)) => (m_gatemake_Stream_Pick r8.2 [60, 100, 300, 1000]).bind fun (r10 : (Int × S_gatemake_Stream)) => (m_gatemake_Stream_Flip r10.2 12).bind fun (r12 : (Bool × S_gatemake_Stream)) => if r12.1 then ((m_gatemake_Stream_Odd r12.2 0 100).bind fun (r15 : (Int × S_gatemake_Stream)) => (m_gatemake_Stream_Odd r15.2 0 1000).bind fun (r17 : (Int × S_gatemake_Stream)) => gatelaw2_SignersSign_J1 r2 r4 r6 r15.1 r17.1) else (gatelaw2_SignersSign_J1 r2 r4 r6 r8.1 r10.1)
end Go.Proofs.Ytpeeeanmfmhlgaa
