/- Plain models of functions. Printed by a program. -/
import Derived.Test.YtmcegaabopcmfaaLibM
namespace Go.Proofs.Ytmcegaabopcmfaa
set_option linter.unusedVariables false
set_option maxRecDepth 20000
structure S_gatemake_Stream where
  L : (List Int)
  at_ : Int
structure S_api_Instance where
  Key : Bs
  Weight : Int
structure S_api_Health where
  Rise : Int
  Fall : Int
structure S_api_Probe where
  At : Int
  Instance : Bs
  Good : Bool
structure S_api_Turn where
  At : Int
  Instance : Bs
  Up : Bool
structure S_upstream_health where
  down_ : Bool
  row_ : Int
structure S_api_Budget where
  Window : Int
  Least : Int
  Part : Int
noncomputable def gatemake_Below_J1 (x6 : Int) : Option (Int) :=
  some x6
noncomputable def m_gatemake_Below (x1 : Int) (n2 : Int) : Option (Int) :=
  if decide (n2 < 1) then some 0 else (if n2 ≠ 0 then (if decide ((Int.tmod x1 n2) < 0) then (gatemake_Below_J1 (wr ((Int.tmod x1 n2) + n2))) else (gatemake_Below_J1 (Int.tmod x1 n2))) else none)
noncomputable def m_gatemake_Stream_Next (s1 : S_gatemake_Stream) (n2 : Int) : Option (Int × S_gatemake_Stream) :=
  if decide ((s1.L.length : Int) = 0) then ((m_gatemake_Below (wr ((wr (s1.at_ + 1)) * 7919)) n2).bind fun (r4 : (Int)) => some (r4, (S_gatemake_Stream.mk s1.L (wr (s1.at_ + 1))))) else (if (s1.L.length : Int) ≠ 0 then (if ((0 : Int) ≤ (wr ((wr (s1.at_ + 1)) - 1)) ∧ (wr ((wr (s1.at_ + 1)) - 1)) ≤ 9223372036854775807) ∧ (0 : Int) < (s1.L.length : Int) then ((at? s1.L (Int.tmod (wr ((wr (s1.at_ + 1)) - 1)) (s1.L.length : Int))).bind fun (x8 : Int) => (m_gatemake_Below x8 1073741824).bind fun (r10 : (Int)) => (m_gatemake_Below (wr (r10 + (wr (((wr ((wr (s1.at_ + 1)) - 1)) / (s1.L.length : Int)) * (wr (7919 + (Int.tmod (wr ((wr (s1.at_ + 1)) - 1)) (s1.L.length : Int)))))))) n2).bind fun (r12 : (Int)) => some (r12, (S_gatemake_Stream.mk s1.L (wr (s1.at_ + 1))))) else none) else none)
noncomputable def m_gatemake_Stream_Flip (s1 : S_gatemake_Stream) (n2 : Int) : Option (Bool × S_gatemake_Stream) :=
  (m_gatemake_Stream_Next s1 n2).bind fun (r3 : (Int × S_gatemake_Stream)) => some (decide (r3.1 = 0), r3.2)
noncomputable def m_gatemake_Stream_Pick (s1 : S_gatemake_Stream) (l2 : (List Int)) : Option (Int × S_gatemake_Stream) :=
  (m_gatemake_Stream_Next s1 (l2.length : Int)).bind fun (r3 : (Int × S_gatemake_Stream)) => (at? l2 r3.1).bind fun (x5 : Int) => some (x5, r3.2)
noncomputable def gatemake_Stream_RightInstances_J2 (out28 : (List S_api_Instance)) (c29 : (List Int)) (c30 : Int) : Option (((List Int) × Int × (List S_api_Instance)) ⊕ ((List S_api_Instance) × S_gatemake_Stream)) :=
  some (.inl (c29, c30, out28))
noncomputable def gatemake_Stream_RightInstances_J3 (l4 : (List S_api_Instance)) (x8 : Bs) (v21 : Bool) (c22 : (List Int)) (c23 : Int) : Option (((List Int) × Int × (List S_api_Instance)) ⊕ ((List S_api_Instance) × S_gatemake_Stream)) :=
  if v21 then ((m_gatemake_Stream_Pick (S_gatemake_Stream.mk c22 c23) [1, 1, 2, 3, 5]).bind fun (r25 : (Int × S_gatemake_Stream)) => if l4.length + 1 ≤ 1000000000 then (gatemake_Stream_RightInstances_J2 (l4 ++ [(S_api_Instance.mk x8 r25.1)]) r25.2.L r25.2.at_) else none) else (gatemake_Stream_RightInstances_J2 l4 c22 c23)
noncomputable def gatemake_Stream_RightInstances_L1 (k5 : Nat) (x8 : Bs) (c2 : (List Int)) (c3 : Int) (l4 : (List S_api_Instance)) : Option (((List Int) × Int × (List S_api_Instance)) ⊕ ((List S_api_Instance) × S_gatemake_Stream)) :=
  if decide ((l4.length : Int) = 0) then (if decide (x8 = [105, 100]) then (gatemake_Stream_RightInstances_J3 l4 x8 true c2 c3) else ((m_gatemake_Stream_Flip (S_gatemake_Stream.mk c2 c3) 4).bind fun (r15 : (Bool × S_gatemake_Stream)) => gatemake_Stream_RightInstances_J3 l4 x8 (!r15.1) r15.2.L r15.2.at_)) else ((m_gatemake_Stream_Flip (S_gatemake_Stream.mk c2 c3) 4).bind fun (r19 : (Bool × S_gatemake_Stream)) => gatemake_Stream_RightInstances_J3 l4 x8 (!r19.1) r19.2.L r19.2.at_)
noncomputable def gatemake_Stream_RightInstances_E1 (c2 : (List Int)) (c3 : Int) (l4 : (List S_api_Instance)) : Option ((List S_api_Instance) × S_gatemake_Stream) :=
  some (l4, (S_gatemake_Stream.mk c2 c3))
noncomputable def m_gatemake_Stream_RightInstances (s1 : S_gatemake_Stream) : Option ((List S_api_Instance) × S_gatemake_Stream) :=
  if ([[105, 97], [105, 98], [105, 99], [105, 100]]).length ≤ 1000000000 then forL (fun (k : Nat) (x : Bs) (s : (List Int) × Int × (List S_api_Instance)) => gatemake_Stream_RightInstances_L1 k x s.1 s.2.1 s.2.2) (fun (s : (List Int) × Int × (List S_api_Instance)) => gatemake_Stream_RightInstances_E1 s.1 s.2.1 s.2.2) 0 ([[105, 97], [105, 98], [105, 99], [105, 100]]) (s1.L, s1.at_, []) else none
noncomputable def m_gatemake_Stream_Some (s1 : S_gatemake_Stream) (l2 : (List Bs)) : Option (Bs × S_gatemake_Stream) :=
  (m_gatemake_Stream_Next s1 (l2.length : Int)).bind fun (r3 : (Int × S_gatemake_Stream)) => (at? l2 r3.1).bind fun (x5 : Bs) => some (x5, r3.2)
noncomputable def m_gatemake_Stream_Range (s1 : S_gatemake_Stream) (low2 : Int) (high3 : Int) : Option (Int × S_gatemake_Stream) :=
  if decide (high3 < low2) then (some (low2, s1)) else ((m_gatemake_Stream_Next s1 (wr ((wr (high3 - low2)) + 1))).bind fun (r5 : (Int × S_gatemake_Stream)) => some (wr (low2 + r5.1), r5.2))
noncomputable def m_gatemake_Stream_Odd (s1 : S_gatemake_Stream) (low2 : Int) (high3 : Int) : Option (Int × S_gatemake_Stream) :=
  (m_gatemake_Stream_Flip s1 12).bind fun (r4 : (Bool × S_gatemake_Stream)) => if r4.1 then ((m_gatemake_Stream_Pick r4.2 [wr (low2 - 1), wr (high3 + 1), low2, high3, (-1099511627776), 1099511627776]).bind fun (r7 : (Int × S_gatemake_Stream)) => some (r7.1, r7.2)) else ((m_gatemake_Stream_Range r4.2 low2 high3).bind fun (r9 : (Int × S_gatemake_Stream)) => some (r9.1, r9.2))
noncomputable def gatemake_Stream_Instances_J1 (out15 : (List S_api_Instance)) (c16 : (List Int)) (c17 : Int) : Option ((List S_api_Instance) × S_gatemake_Stream) :=
  (m_gatemake_Stream_Flip (S_gatemake_Stream.mk c16 c17) 25).bind fun (r18 : (Bool × S_gatemake_Stream)) => if r18.1 then (some ([], r18.2)) else (some (out15, r18.2))
noncomputable def m_gatemake_Stream_Instances (s1 : S_gatemake_Stream) : Option ((List S_api_Instance) × S_gatemake_Stream) :=
  (m_gatemake_Stream_RightInstances s1).bind fun (r2 : ((List S_api_Instance) × S_gatemake_Stream)) => (m_gatemake_Stream_Flip r2.2 15).bind fun (r4 : (Bool × S_gatemake_Stream)) => if r4.1 then ((m_gatemake_Stream_Next r4.2 (r2.1.length : Int)).bind fun (r7 : (Int × S_gatemake_Stream)) => (at? r2.1 r7.1).bind fun (x9 : S_api_Instance) => (m_gatemake_Stream_Some r7.2 ([x9.Key, [], [65], [105, 97]])).bind fun (r11 : (Bs × S_gatemake_Stream)) => (m_gatemake_Stream_Odd r11.2 1 100).bind fun (r13 : (Int × S_gatemake_Stream)) => gatemake_Stream_Instances_J1 ((r2.1.set r7.1.toNat (S_api_Instance.mk r11.1 x9.Weight)).set r7.1.toNat (S_api_Instance.mk r11.1 r13.1)) r13.2.L r13.2.at_) else (gatemake_Stream_Instances_J1 r2.1 r4.2.L r4.2.at_)
noncomputable def gatemake_Stream_Health_J1 (c13 : (List Int)) (c14 : Int) (c15 : Int) (c16 : Int) : Option (S_api_Health × S_gatemake_Stream) :=
  some ((S_api_Health.mk c15 c16), (S_gatemake_Stream.mk c13 c14))
noncomputable def m_gatemake_Stream_Health (s1 : S_gatemake_Stream) : Option (S_api_Health × S_gatemake_Stream) :=
  (m_gatemake_Stream_Pick s1 [1, 2, 3]).bind fun (r2 : (Int × S_gatemake_Stream)) => (m_gatemake_Stream_Pick r2.2 [1, 2, 3]).bind fun (r4 : (Int × S_gatemake_Stream)) => (m_gatemake_Stream_Flip r4.2 20).bind fun (r6 : (Bool × S_gatemake_Stream)) => if r6.1 then ((m_gatemake_Stream_Odd r6.2 1 100).bind fun (r9 : (Int × S_gatemake_Stream)) => (m_gatemake_Stream_Odd r9.2 1 100).bind fun (r11 : (Int × S_gatemake_Stream)) => gatemake_Stream_Health_J1 r11.2.L r11.2.at_ r9.1 r11.1) else (gatemake_Stream_Health_J1 r6.2.L r6.2.at_ r2.1 r4.1)
noncomputable def m_gatemake_Stream_InstanceKey (s1 : S_gatemake_Stream) : Option (Bs × S_gatemake_Stream) :=
  (m_gatemake_Stream_Flip s1 40).bind fun (r2 : (Bool × S_gatemake_Stream)) => if r2.1 then ((m_gatemake_Stream_Some r2.2 ([[], [110, 111, 110, 101]])).bind fun (r5 : (Bs × S_gatemake_Stream)) => some (r5.1, r5.2)) else ((m_gatemake_Stream_Some r2.2 ([[105, 97], [105, 98], [105, 99], [105, 100]])).bind fun (r7 : (Bs × S_gatemake_Stream)) => some (r7.1, r7.2))
noncomputable def gatemake_Stream_Probes_J4 (v5 : Int) (l8 : (List S_api_Probe)) (r13 : (Int × S_gatemake_Stream)) (r17 : (Bool × S_gatemake_Stream)) (c34 : Bs) (c40 : (List Int)) (c41 : Int) (c42 : Int) : Option ((Int × (List Int) × Int × (List S_api_Probe)) ⊕ ((List S_api_Probe) × S_gatemake_Stream)) :=
  if l8.length + 1 ≤ 1000000000 then (some (.inl (wr (v5 + r13.1), c40, c41, (l8 ++ [(S_api_Probe.mk c42 c34 r17.1)])))) else none
noncomputable def gatemake_Stream_Probes_J2 (v5 : Int) (l8 : (List S_api_Probe)) (r13 : (Int × S_gatemake_Stream)) (r17 : (Bool × S_gatemake_Stream)) (c32 : (List Int)) (c33 : Int) (c34 : Bs) : Option ((Int × (List Int) × Int × (List S_api_Probe)) ⊕ ((List S_api_Probe) × S_gatemake_Stream)) :=
  (m_gatemake_Stream_Flip (S_gatemake_Stream.mk c32 c33) 80).bind fun (r35 : (Bool × S_gatemake_Stream)) => if r35.1 then ((m_gatemake_Stream_Odd r35.2 0 50).bind fun (r38 : (Int × S_gatemake_Stream)) => gatemake_Stream_Probes_J4 v5 l8 r13 r17 c34 r38.2.L r38.2.at_ r38.1) else (gatemake_Stream_Probes_J4 v5 l8 r13 r17 c34 r35.2.L r35.2.at_ (wr (v5 + r13.1)))
noncomputable def gatemake_Stream_Probes_J3 (l2 : (List S_api_Instance)) (v5 : Int) (l8 : (List S_api_Probe)) (r13 : (Int × S_gatemake_Stream)) (r15 : (Bs × S_gatemake_Stream)) (r17 : (Bool × S_gatemake_Stream)) (v24 : Bool) (c25 : (List Int)) (c26 : Int) : Option ((Int × (List Int) × Int × (List S_api_Probe)) ⊕ ((List S_api_Probe) × S_gatemake_Stream)) :=
  if v24 then ((m_gatemake_Stream_Next (S_gatemake_Stream.mk c25 c26) (l2.length : Int)).bind fun (r28 : (Int × S_gatemake_Stream)) => (at? l2 r28.1).bind fun (x30 : S_api_Instance) => gatemake_Stream_Probes_J2 v5 l8 r13 r17 r28.2.L r28.2.at_ x30.Key) else (gatemake_Stream_Probes_J2 v5 l8 r13 r17 c25 c26 r15.1)
noncomputable def gatemake_Stream_Probes_L1 (l2 : (List S_api_Instance)) (k9 : Nat) (v5 : Int) (c6 : (List Int)) (c7 : Int) (l8 : (List S_api_Probe)) : Option ((Int × (List Int) × Int × (List S_api_Probe)) ⊕ ((List S_api_Probe) × S_gatemake_Stream)) :=
  (m_gatemake_Stream_Pick (S_gatemake_Stream.mk c6 c7) [0, 1, 5, 10]).bind fun (r13 : (Int × S_gatemake_Stream)) => (m_gatemake_Stream_InstanceKey r13.2).bind fun (r15 : (Bs × S_gatemake_Stream)) => (m_gatemake_Stream_Flip r15.2 2).bind fun (r17 : (Bool × S_gatemake_Stream)) => if decide (0 < (l2.length : Int)) then ((m_gatemake_Stream_Flip r17.2 60).bind fun (r21 : (Bool × S_gatemake_Stream)) => gatemake_Stream_Probes_J3 l2 v5 l8 r13 r15 r17 (!r21.1) r21.2.L r21.2.at_) else (gatemake_Stream_Probes_J3 l2 v5 l8 r13 r15 r17 false r17.2.L r17.2.at_)
noncomputable def gatemake_Stream_Probes_E1 (v5 : Int) (c6 : (List Int)) (c7 : Int) (l8 : (List S_api_Probe)) : Option ((List S_api_Probe) × S_gatemake_Stream) :=
  some (l8, (S_gatemake_Stream.mk c6 c7))
noncomputable def m_gatemake_Stream_Probes (s1 : S_gatemake_Stream) (l2 : (List S_api_Instance)) : Option ((List S_api_Probe) × S_gatemake_Stream) :=
  (m_gatemake_Stream_Range s1 0 16).bind fun (r3 : (Int × S_gatemake_Stream)) => if r3.1 ≤ 1000000000 then rng (fun (k : Nat) (s : Int × (List Int) × Int × (List S_api_Probe)) => gatemake_Stream_Probes_L1 l2 k s.1 s.2.1 s.2.2.1 s.2.2.2) (fun (s : Int × (List Int) × Int × (List S_api_Probe)) => gatemake_Stream_Probes_E1 s.1 s.2.1 s.2.2.1 s.2.2.2) r3.1.toNat 0 (0, r3.2.L, r3.2.at_, []) else none
noncomputable def kit_IsKey_L1 (i2 : Nat) (x5 : UInt8) : Option (Unit ⊕ (Bool)) :=
  if !(((decide (97 ≤ (x5.toNat : Int))) && (decide ((x5.toNat : Int) ≤ 122))) || ((decide (0 < (i2 : Int))) && ((((decide (48 ≤ (x5.toNat : Int))) && (decide ((x5.toNat : Int) ≤ 57))) || (decide ((x5.toNat : Int) = 45))) || (decide ((x5.toNat : Int) = 95))))) then (some (.inr false)) else (some (.inl ()))
noncomputable def kit_IsKey_E1 (s1 : Bs) : Option (Bool) :=
  some ((decide (s1 ≠ [])) && (decide ((s1.length : Int) ≤ 40)))
noncomputable def m_kit_IsKey (s1 : Bs) : Option (Bool) :=
  if s1.length ≤ 1000000000 then forL (fun (k : Nat) (x : UInt8) (s : Unit) => kit_IsKey_L1 k x) (fun (s : Unit) => kit_IsKey_E1 s1) 0 s1 () else none
noncomputable def m_kit_Outside (n1 : Int) (low2 : Int) (high3 : Int) : Option (Bool) :=
  some ((decide (n1 < low2)) || (decide (high3 < n1)))
noncomputable def upstream_CheckInstances_J2 (x6 : S_api_Instance) (v17 : Bool) : Option (Unit ⊕ (Int)) :=
  if v17 then (some (.inr 7)) else ((m_kit_Outside x6.Weight 1 100).bind fun (r19 : (Bool)) => if r19 then (some (.inr 1)) else (some (.inl ())))
noncomputable def upstream_CheckInstances_L1 (l1 : (List S_api_Instance)) (k3 : Nat) (x6 : S_api_Instance) : Option (Unit ⊕ (Int)) :=
  (m_kit_IsKey x6.Key).bind fun (r9 : (Bool)) => if !r9 then (some (.inr 5)) else (if decide (0 < (k3 : Int)) then ((at? l1 ((k3 : Int) - 1)).bind fun (x14 : S_api_Instance) => upstream_CheckInstances_J2 x6 (Op.bytesLess x6.Key x14.Key || x6.Key == x14.Key)) else (upstream_CheckInstances_J2 x6 false))
noncomputable def upstream_CheckInstances_E1 : Option (Int) :=
  some 0
noncomputable def m_upstream_CheckInstances (l1 : (List S_api_Instance)) : Option (Int) :=
  if decide (50 < (l1.length : Int)) then some 2 else (if l1.length ≤ 1000000000 then forL (fun (k : Nat) (x : S_api_Instance) (s : Unit) => upstream_CheckInstances_L1 l1 k x) (fun (s : Unit) => upstream_CheckInstances_E1) 0 l1 () else none)
noncomputable def upstream_HealthFault_J1 (v9 : Bool) : Option (Int) :=
  if v9 then some 1 else some 0
noncomputable def m_upstream_HealthFault (h1 : S_api_Health) : Option (Int) :=
  (m_kit_Outside h1.Rise 1 100).bind fun (r2 : (Bool)) => if r2 then (upstream_HealthFault_J1 true) else ((m_kit_Outside h1.Fall 1 100).bind fun (r6 : (Bool)) => upstream_HealthFault_J1 r6)
noncomputable def m_kit_IsMoment (n1 : Int) : Option (Bool) :=
  some ((decide (0 ≤ n1)) && (decide (n1 < 345686400000)))
noncomputable def slices_BinarySearchFunc_L_api_Instance_api_Instance_string__J3 (i12 : Int) (v20 : Bool) : Option (Int × Bool) :=
  some (i12, v20)
noncomputable def slices_BinarySearchFunc_L_api_Instance_api_Instance_string__J1 (x1 : (List S_api_Instance)) (target2 : Bs) (p2 : S_api_Instance → Bs → Option (Int)) (i12 : Int) : Option (Int × Bool) :=
  if decide (i12 < (x1.length : Int)) then ((at? x1 i12).bind fun (x15 : S_api_Instance) => (p2 x15 target2).bind fun (r17 : Int) => slices_BinarySearchFunc_L_api_Instance_api_Instance_string__J3 i12 (decide (r17 = 0))) else (slices_BinarySearchFunc_L_api_Instance_api_Instance_string__J3 i12 false)
noncomputable def slices_BinarySearchFunc_L_api_Instance_api_Instance_string__L2 (x1 : (List S_api_Instance)) (target2 : Bs) (p2 : S_api_Instance → Bs → Option (Int)) (i3 : Int) (j4 : Int) : Option ((Int × Int) ⊕ (Int × Bool)) :=
  if decide (i3 < j4) then ((at? x1 (IntKind.wrap .i64 (shr_ .u64 (IntKind.wrap .u64 (wr (i3 + j4))) 1))).bind fun (x7 : S_api_Instance) => (p2 x7 target2).bind fun (r9 : Int) => if decide (r9 < 0) then (some (.inl (wr ((IntKind.wrap .i64 (shr_ .u64 (IntKind.wrap .u64 (wr (i3 + j4))) 1)) + 1), j4))) else (some (.inl (i3, IntKind.wrap .i64 (shr_ .u64 (IntKind.wrap .u64 (wr (i3 + j4))) 1))))) else (Option.map .inr (slices_BinarySearchFunc_L_api_Instance_api_Instance_string__J1 x1 target2 p2 i3))
noncomputable def m_slices_BinarySearchFunc_L_api_Instance_api_Instance_string_ (x1 : (List S_api_Instance)) (target2 : Bs) (p2 : S_api_Instance → Bs → Option (Int)) : Option (Int × Bool) :=
  iter (fun (s : Int × Int) => slices_BinarySearchFunc_L_api_Instance_api_Instance_string__L2 x1 target2 p2 s.1 s.2) (0, (x1.length : Int))
noncomputable def m_upstream_place_1 (x1 : S_api_Instance) (k2 : Bs) : Option (Int) :=
  (m_strings_Compare x1.Key k2).bind fun (r3 : (Int)) => some r3
noncomputable def m_upstream_place (l1 : (List S_api_Instance)) (key2 : Bs) : Option (Int × Bool) :=
  (m_slices_BinarySearchFunc_L_api_Instance_api_Instance_string_ l1 key2 (fun (a0 : S_api_Instance) (a1 : Bs) => m_upstream_place_1 a0 a1)).bind fun (r3 : (Int × Bool)) => some (r3.1, r3.2)
noncomputable def upstream_CheckProbes_J2 (v24 : Bool) : Option (Unit ⊕ (Int)) :=
  if v24 then (some (.inr 7)) else (some (.inl ()))
noncomputable def upstream_CheckProbes_L1 (l1 : (List S_api_Instance)) (p2 : (List S_api_Probe)) (k7 : Nat) (x10 : S_api_Probe) : Option (Unit ⊕ (Int)) :=
  (m_kit_IsMoment x10.At).bind fun (r13 : (Bool)) => if !r13 then (some (.inr 1)) else ((m_upstream_place l1 x10.Instance).bind fun (r16 : (Int × Bool)) => if !r16.2 then (some (.inr 8)) else (if decide (0 < (k7 : Int)) then ((at? p2 ((k7 : Int) - 1)).bind fun (x21 : S_api_Probe) => upstream_CheckProbes_J2 (decide (x10.At < x21.At))) else (upstream_CheckProbes_J2 false)))
noncomputable def upstream_CheckProbes_E1 : Option (Int) :=
  some 0
noncomputable def m_upstream_CheckProbes (l1 : (List S_api_Instance)) (p2 : (List S_api_Probe)) : Option (Int) :=
  (m_upstream_CheckInstances l1).bind fun (r3 : (Int)) => if decide (r3 ≠ 0) then some r3 else (if decide (2000 < (p2.length : Int)) then some 2 else (if p2.length ≤ 1000000000 then forL (fun (k : Nat) (x : S_api_Probe) (s : Unit) => upstream_CheckProbes_L1 l1 p2 k x) (fun (s : Unit) => upstream_CheckProbes_E1) 0 p2 () else none))
noncomputable def m_upstream_healthFault (l1 : (List S_api_Instance)) (h2 : S_api_Health) (p3 : (List S_api_Probe)) : Option (Int) :=
  (m_upstream_CheckInstances l1).bind fun (r4 : (Int)) => if decide (r4 ≠ 0) then some r4 else ((m_upstream_HealthFault h2).bind fun (r7 : (Int)) => if decide (r7 ≠ 0) then some r7 else ((m_upstream_CheckProbes l1 p3).bind fun (r10 : (Int)) => some r10))
noncomputable def upstream_health_probed_J1 (s1 : S_upstream_health) (most6 : Int) : Option (Bool × S_upstream_health) :=
  if decide ((wr (s1.row_ + 1)) < most6) then (some (false, (S_upstream_health.mk s1.down_ (wr (s1.row_ + 1))))) else (some (true, (S_upstream_health.mk (!s1.down_) 0)))
noncomputable def m_upstream_health_probed (s1 : S_upstream_health) (h2 : S_api_Health) (good3 : Bool) : Option (Bool × S_upstream_health) :=
  if (good3 != s1.down_) then (some (false, (S_upstream_health.mk s1.down_ 0))) else (if s1.down_ then (upstream_health_probed_J1 s1 h2.Rise) else (upstream_health_probed_J1 s1 h2.Fall))
noncomputable def upstream_turns_J3 (now25 : (List S_upstream_health)) (out26 : (List S_api_Turn)) : Option (((List S_upstream_health) × (List S_api_Turn)) ⊕ ((List S_api_Turn) × (List S_upstream_health))) :=
  some (.inl (now25, out26))
noncomputable def upstream_turns_J1 (now27 : (List S_upstream_health)) (out28 : (List S_api_Turn)) : Option ((List S_api_Turn) × (List S_upstream_health)) :=
  some (out28, now27)
noncomputable def upstream_turns_L2 (l1 : (List S_api_Instance)) (h2 : S_api_Health) (v4 : Int) (k8 : Nat) (x11 : S_api_Probe) (l6 : (List S_upstream_health)) (l7 : (List S_api_Turn)) : Option (((List S_upstream_health) × (List S_api_Turn)) ⊕ ((List S_api_Turn) × (List S_upstream_health))) :=
  if decide (v4 < x11.At) then (Option.map .inr (upstream_turns_J1 l6 l7)) else ((m_upstream_place l1 x11.Instance).bind fun (r15 : (Int × Bool)) => (at? l6 r15.1).bind fun (x17 : S_upstream_health) => (m_upstream_health_probed x17 h2 x11.Good).bind fun (r19 : (Bool × S_upstream_health)) => if r19.1 then ((at? (l6.set r15.1.toNat r19.2) r15.1).bind fun (x22 : S_upstream_health) => if l7.length + 1 ≤ 1000000000 then (upstream_turns_J3 (l6.set r15.1.toNat r19.2) (l7 ++ [(S_api_Turn.mk x11.At x11.Instance (!x22.down_))])) else none) else (upstream_turns_J3 (l6.set r15.1.toNat r19.2) l7))
noncomputable def upstream_turns_E2 (l6 : (List S_upstream_health)) (l7 : (List S_api_Turn)) : Option ((List S_api_Turn) × (List S_upstream_health)) :=
  upstream_turns_J1 l6 l7
noncomputable def m_upstream_turns (l1 : (List S_api_Instance)) (h2 : S_api_Health) (p3 : (List S_api_Probe)) (v4 : Int) : Option ((List S_api_Turn) × (List S_upstream_health)) :=
  if l1.length ≤ 1000000000 then (if p3.length ≤ 1000000000 then forL (fun (k : Nat) (x : S_api_Probe) (s : (List S_upstream_health) × (List S_api_Turn)) => upstream_turns_L2 l1 h2 v4 k x s.1 s.2) (fun (s : (List S_upstream_health) × (List S_api_Turn)) => upstream_turns_E2 s.1 s.2) 0 p3 ((List.replicate l1.length (S_upstream_health.mk false 0)), []) else none) else none
noncomputable def m_upstream_Turns (l1 : (List S_api_Instance)) (h2 : S_api_Health) (p3 : (List S_api_Probe)) : Option ((List S_api_Turn) × Int) :=
  (m_upstream_healthFault l1 h2 p3).bind fun (r4 : (Int)) => if decide (r4 ≠ 0) then (some ([], r4)) else ((m_upstream_turns l1 h2 p3 345686400000).bind fun (r7 : ((List S_api_Turn) × (List S_upstream_health))) => some (r7.1, 0))
noncomputable def upstream_Up_J2 (out24 : (List Bs)) : Option ((List Bs) ⊕ ((List Bs) × Int)) :=
  some (.inl out24)
noncomputable def upstream_Up_L1 (r11 : ((List S_api_Turn) × (List S_upstream_health))) (k14 : Nat) (x17 : S_api_Instance) (l13 : (List Bs)) : Option ((List Bs) ⊕ ((List Bs) × Int)) :=
  (r11.2[k14]?).bind fun (x20 : S_upstream_health) => if !x20.down_ then (if l13.length + 1 ≤ 1000000000 then (upstream_Up_J2 (l13 ++ [x17.Key])) else none) else (upstream_Up_J2 l13)
noncomputable def upstream_Up_E1 (l13 : (List Bs)) : Option ((List Bs) × Int) :=
  some (l13, 0)
noncomputable def m_upstream_Up (l1 : (List S_api_Instance)) (h2 : S_api_Health) (p3 : (List S_api_Probe)) (v4 : Int) : Option ((List Bs) × Int) :=
  (m_upstream_healthFault l1 h2 p3).bind fun (r5 : (Int)) => if decide (r5 ≠ 0) then (some ([], r5)) else ((m_kit_IsMoment v4).bind fun (r8 : (Bool)) => if !r8 then (some ([], 1)) else ((m_upstream_turns l1 h2 p3 v4).bind fun (r11 : ((List S_api_Turn) × (List S_upstream_health))) => if l1.length ≤ 1000000000 then forL (fun (k : Nat) (x : S_api_Instance) (s : (List Bs)) => upstream_Up_L1 r11 k x s) (fun (s : (List Bs)) => upstream_Up_E1 s) 0 l1 [] else none))
noncomputable def m_gateref2_in (n1 : Int) (low2 : Int) (high3 : Int) : Option (Bool) :=
  some ((decide (low2 ≤ n1)) && (decide (n1 ≤ high3)))
noncomputable def gateref2_only_L1 (some2 : Bs) (k3 : Nat) (x6 : UInt8) : Option (Unit ⊕ (Bool)) :=
  (m_strings_IndexByte some2 (x6.toNat : Int)).bind fun (r9 : (Int)) => if decide (r9 < 0) then (some (.inr false)) else (some (.inl ()))
noncomputable def gateref2_only_E1 : Option (Bool) :=
  some true
noncomputable def m_gateref2_only (s1 : Bs) (some2 : Bs) : Option (Bool) :=
  if s1.length ≤ 1000000000 then forL (fun (k : Nat) (x : UInt8) (s : Unit) => gateref2_only_L1 some2 k x) (fun (s : Unit) => gateref2_only_E1) 0 s1 () else none
noncomputable def gateref2_Key_J1 (v16 : Bool) : Option (Bool) :=
  some v16
noncomputable def m_gateref2_Key (s1 : Bs) : Option (Bool) :=
  (m_gateref2_in (s1.length : Int) 1 40).bind fun (r2 : (Bool)) => if r2 then ((sub? s1 0 1).bind fun (l6 : Bs) => (m_gateref2_only l6 [97, 98, 99, 100, 101, 102, 103, 104, 105, 106, 107, 108, 109, 110, 111, 112, 113, 114, 115, 116, 117, 118, 119, 120, 121, 122]).bind fun (r8 : (Bool)) => if r8 then ((m_gateref2_only s1 [97, 98, 99, 100, 101, 102, 103, 104, 105, 106, 107, 108, 109, 110, 111, 112, 113, 114, 115, 116, 117, 118, 119, 120, 121, 122, 48, 49, 50, 51, 52, 53, 54, 55, 56, 57, 45, 95]).bind fun (r12 : (Bool)) => gateref2_Key_J1 r12) else (gateref2_Key_J1 false)) else (gateref2_Key_J1 false)
noncomputable def gateref2_InstancesFault_L1 (k4 : Nat) (x7 : S_api_Instance) (last3 : Bs) : Option (Bs ⊕ (Int)) :=
  (m_gateref2_Key x7.Key).bind fun (r10 : (Bool)) => if !r10 then (some (.inr 5)) else (if (Op.bytesLess x7.Key last3 || x7.Key == last3) then (some (.inr 7)) else ((m_gateref2_in x7.Weight 1 100).bind fun (r14 : (Bool)) => if !r14 then (some (.inr 1)) else (some (.inl x7.Key))))
noncomputable def gateref2_InstancesFault_E1 (last3 : Bs) : Option (Int) :=
  some 0
noncomputable def m_gateref2_InstancesFault (l1 : (List S_api_Instance)) : Option (Int) :=
  if decide (50 < (l1.length : Int)) then some 2 else (if l1.length ≤ 1000000000 then forL (fun (k : Nat) (x : S_api_Instance) (s : Bs) => gateref2_InstancesFault_L1 k x s) (fun (s : Bs) => gateref2_InstancesFault_E1 s) 0 l1 [] else none)
noncomputable def m_gateref2_Moment (v1 : Int) : Option (Bool) :=
  (m_gateref2_in v1 0 345686399999).bind fun (r2 : (Bool)) => some r2
noncomputable def slices_IndexFunc_L_api_Instance_api_Instance__L1 (p1 : S_api_Instance → Option (Bool)) (k2 : Nat) (x5 : S_api_Instance) : Option (Unit ⊕ (Int)) :=
  (p1 x5).bind fun (r8 : Bool) => if r8 then (some (.inr (k2 : Int))) else (some (.inl ()))
noncomputable def slices_IndexFunc_L_api_Instance_api_Instance__E1 : Option (Int) :=
  some (-1)
noncomputable def m_slices_IndexFunc_L_api_Instance_api_Instance_ (s1 : (List S_api_Instance)) (p1 : S_api_Instance → Option (Bool)) : Option (Int) :=
  if s1.length ≤ 1000000000 then forL (fun (k : Nat) (x : S_api_Instance) (s : Unit) => slices_IndexFunc_L_api_Instance_api_Instance__L1 p1 k x) (fun (s : Unit) => slices_IndexFunc_L_api_Instance_api_Instance__E1) 0 s1 () else none
noncomputable def m_gateref2_InstanceAt_1 (x1 : S_api_Instance) (c2 : Bs) : Option (Bool) :=
  some (decide (x1.Key = c2))
noncomputable def m_gateref2_InstanceAt (l1 : (List S_api_Instance)) (key2 : Bs) : Option (Int) :=
  (m_slices_IndexFunc_L_api_Instance_api_Instance_ l1 (fun (a0 : S_api_Instance) => m_gateref2_InstanceAt_1 a0 key2)).bind fun (r3 : (Int)) => some r3
noncomputable def gateref2_ProbesFault_J2 (v21 : Bool) : Option (Unit ⊕ (Int)) :=
  if v21 then (some (.inr 7)) else (some (.inl ()))
noncomputable def gateref2_ProbesFault_L1 (l1 : (List S_api_Instance)) (p2 : (List S_api_Probe)) (k4 : Nat) (x7 : S_api_Probe) : Option (Unit ⊕ (Int)) :=
  (m_gateref2_Moment x7.At).bind fun (r10 : (Bool)) => if !r10 then (some (.inr 1)) else ((m_gateref2_InstanceAt l1 x7.Instance).bind fun (r13 : (Int)) => if decide (r13 < 0) then (some (.inr 8)) else (if decide (0 < (k4 : Int)) then ((at? p2 ((k4 : Int) - 1)).bind fun (x18 : S_api_Probe) => gateref2_ProbesFault_J2 (decide (x7.At < x18.At))) else (gateref2_ProbesFault_J2 false)))
noncomputable def gateref2_ProbesFault_E1 : Option (Int) :=
  some 0
noncomputable def m_gateref2_ProbesFault (l1 : (List S_api_Instance)) (p2 : (List S_api_Probe)) : Option (Int) :=
  if decide (2000 < (p2.length : Int)) then some 2 else (if p2.length ≤ 1000000000 then forL (fun (k : Nat) (x : S_api_Probe) (s : Unit) => gateref2_ProbesFault_L1 l1 p2 k x) (fun (s : Unit) => gateref2_ProbesFault_E1) 0 p2 () else none)
noncomputable def gatelaw2_errs_L1 (k2 : Nat) (x5 : Int) : Option (Unit ⊕ (Int)) :=
  if decide (x5 ≠ 0) then (some (.inr x5)) else (some (.inl ()))
noncomputable def gatelaw2_errs_E1 : Option (Int) :=
  some 0
noncomputable def m_gatelaw2_errs (l1 : (List Int)) : Option (Int) :=
  if l1.length ≤ 1000000000 then forL (fun (k : Nat) (x : Int) (s : Unit) => gatelaw2_errs_L1 k x) (fun (s : Unit) => gatelaw2_errs_E1) 0 l1 () else none
noncomputable def gateref2_HealthFault_J1 (v9 : Bool) : Option (Int) :=
  if v9 then some 1 else some 0
noncomputable def m_gateref2_HealthFault (h1 : S_api_Health) : Option (Int) :=
  (m_gateref2_in h1.Rise 1 100).bind fun (r2 : (Bool)) => if !r2 then (gateref2_HealthFault_J1 true) else ((m_gateref2_in h1.Fall 1 100).bind fun (r6 : (Bool)) => gateref2_HealthFault_J1 (!r6))
noncomputable def m_gatelaw2_when (is1 : Bool) (e2 : Int) : Option (Int) :=
  if is1 then some e2 else some 0
noncomputable def m_gatelaw2_momentFault (v1 : Int) : Option (Int) :=
  (m_gateref2_Moment v1).bind fun (r2 : (Bool)) => (m_gatelaw2_when (!r2) 1).bind fun (r4 : (Int)) => some r4
noncomputable def gateref2_TurnsOf_J3 (v21 : (List S_api_Turn)) : Option ((List S_api_Turn) ⊕ ((List S_api_Turn))) :=
  some (.inl v21)
noncomputable def gateref2_TurnsOf_L2 (l5 : (List (Option S_api_Turn))) (k11 : Nat) (l10 : (List S_api_Turn)) : Option ((List S_api_Turn) ⊕ ((List S_api_Turn))) :=
  (l5[k11]?).bind fun (x15 : (Option S_api_Turn)) => if x15.isSome then (x15.bind fun (x18 : S_api_Turn) => if l10.length + 1 ≤ 1000000000 then (gateref2_TurnsOf_J3 (l10 ++ [x18])) else none) else (gateref2_TurnsOf_J3 l10)
noncomputable def gateref2_TurnsOf_E2 (l10 : (List S_api_Turn)) : Option ((List S_api_Turn)) :=
  some l10
noncomputable def gateref2_TurnsOf_J5 (v38 : Bool) (v39 : Int) (v40 : (List (Option S_api_Turn))) : Option ((Bool × Int × (List (Option S_api_Turn))) ⊕ ((List (Option S_api_Turn)) ⊕ ((List S_api_Turn)))) :=
  some (.inl (v38, v39, v40))
noncomputable def gateref2_TurnsOf_L4 (v2 : S_api_Health) (x9 : S_api_Instance) (k27 : Nat) (x30 : S_api_Probe) (v24 : Bool) (v25 : Int) (l26 : (List (Option S_api_Turn))) : Option ((Bool × Int × (List (Option S_api_Turn))) ⊕ ((List (Option S_api_Turn)) ⊕ ((List S_api_Turn)))) :=
  if decide (x30.Instance ≠ x9.Key) then (gateref2_TurnsOf_J5 v24 v25 l26) else (if (x30.Good == v24) then (gateref2_TurnsOf_J5 v24 0 l26) else (if ((v24 && (decide ((wr (v25 + 1)) = v2.Fall))) || ((!v24) && (decide ((wr (v25 + 1)) = v2.Rise)))) then ((l26[k27]?).bind fun (x36 : (Option S_api_Turn)) => gateref2_TurnsOf_J5 (!v24) 0 (l26.set k27 (some (S_api_Turn.mk x30.At x9.Key (!v24))))) else (gateref2_TurnsOf_J5 v24 (wr (v25 + 1)) l26)))
noncomputable def gateref2_TurnsOf_E4 (v24 : Bool) (v25 : Int) (l26 : (List (Option S_api_Turn))) : Option ((List (Option S_api_Turn)) ⊕ ((List S_api_Turn))) :=
  some (.inl l26)
noncomputable def gateref2_TurnsOf_L1 (v2 : S_api_Health) (v3 : (List S_api_Probe)) (k6 : Nat) (x9 : S_api_Instance) (l5 : (List (Option S_api_Turn))) : Option ((List (Option S_api_Turn)) ⊕ ((List S_api_Turn))) :=
  if v3.length ≤ 1000000000 then forL (fun (k : Nat) (x : S_api_Probe) (s : Bool × Int × (List (Option S_api_Turn))) => gateref2_TurnsOf_L4 v2 x9 k x s.1 s.2.1 s.2.2) (fun (s : Bool × Int × (List (Option S_api_Turn))) => gateref2_TurnsOf_E4 s.1 s.2.1 s.2.2) 0 v3 (true, 0, l5) else none
noncomputable def gateref2_TurnsOf_E1 (l5 : (List (Option S_api_Turn))) : Option ((List S_api_Turn)) :=
  if l5.length ≤ 1000000000 then rng (fun (k : Nat) (s : (List S_api_Turn)) => gateref2_TurnsOf_L2 l5 k s) (fun (s : (List S_api_Turn)) => gateref2_TurnsOf_E2 s) l5.length 0 [] else none
noncomputable def m_gateref2_TurnsOf (v1 : (List S_api_Instance)) (v2 : S_api_Health) (v3 : (List S_api_Probe)) : Option ((List S_api_Turn)) :=
  if v3.length ≤ 1000000000 then (if v1.length ≤ 1000000000 then forL (fun (k : Nat) (x : S_api_Instance) (s : (List (Option S_api_Turn))) => gateref2_TurnsOf_L1 v2 v3 k x s) (fun (s : (List (Option S_api_Turn))) => gateref2_TurnsOf_E1 s) 0 v1 (List.replicate v3.length none) else none) else none
noncomputable def gateref2_UpOf_J3 (out23 : (List Bs)) : Option ((List Bs) ⊕ ((List Bs))) :=
  some (.inl out23)
noncomputable def gateref2_UpOf_L2 (m7 : (Bs → Bool)) (k14 : Nat) (x17 : S_api_Instance) (l13 : (List Bs)) : Option ((List Bs) ⊕ ((List Bs))) :=
  if x17.Key.length ≤ 1000000000 then (if !(m7 x17.Key) then (if l13.length + 1 ≤ 1000000000 then (gateref2_UpOf_J3 (l13 ++ [x17.Key])) else none) else (gateref2_UpOf_J3 l13)) else none
noncomputable def gateref2_UpOf_E2 (l13 : (List Bs)) : Option ((List Bs)) :=
  some l13
noncomputable def gateref2_UpOf_J4 (m28 : (Bs → Bool)) (m29 : Nat) : Option (((Bs → Bool) × Nat) ⊕ ((List Bs))) :=
  some (.inl (m28, m29))
noncomputable def gateref2_UpOf_L1 (v4 : Int) (k9 : Nat) (x12 : S_api_Turn) (m7 : (Bs → Bool)) (m8 : Nat) : Option (((Bs → Bool) × Nat) ⊕ ((List Bs))) :=
  if decide (x12.At ≤ v4) then (if x12.Instance.length ≤ 1000000000 ∧ m8 < 1000000 then (gateref2_UpOf_J4 (upm m7 x12.Instance (!x12.Up)) (m8 + 1)) else none) else (gateref2_UpOf_J4 m7 m8)
noncomputable def gateref2_UpOf_E1 (l1 : (List S_api_Instance)) (m7 : (Bs → Bool)) (m8 : Nat) : Option ((List Bs)) :=
  if l1.length ≤ 1000000000 then forL (fun (k : Nat) (x : S_api_Instance) (s : (List Bs)) => gateref2_UpOf_L2 m7 k x s) (fun (s : (List Bs)) => gateref2_UpOf_E2 s) 0 l1 [] else none
noncomputable def m_gateref2_UpOf (l1 : (List S_api_Instance)) (h2 : S_api_Health) (p3 : (List S_api_Probe)) (v4 : Int) : Option ((List Bs)) :=
  (m_gateref2_TurnsOf l1 h2 p3).bind fun (r5 : ((List S_api_Turn))) => if r5.length ≤ 1000000000 then forL (fun (k : Nat) (x : S_api_Turn) (s : (Bs → Bool) × Nat) => gateref2_UpOf_L1 v4 k x s.1 s.2) (fun (s : (Bs → Bool) × Nat) => gateref2_UpOf_E1 l1 s.1 s.2) 0 r5 ((fun _ => false), 0) else none
noncomputable def slices_Equal_L_api_Turn_api_Turn__L1 (s2 : (List S_api_Turn)) (k4 : Nat) (x7 : S_api_Turn) : Option (Unit ⊕ (Bool)) :=
  (s2[k4]?).bind fun (x10 : S_api_Turn) => if (!((x7.At == x10.At) && ((x7.Instance == x10.Instance) && ((x7.Up == x10.Up) && true)))) then (some (.inr false)) else (some (.inl ()))
noncomputable def slices_Equal_L_api_Turn_api_Turn__E1 : Option (Bool) :=
  some true
noncomputable def m_slices_Equal_L_api_Turn_api_Turn_ (s1 : (List S_api_Turn)) (s2 : (List S_api_Turn)) : Option (Bool) :=
  if decide ((s1.length : Int) ≠ (s2.length : Int)) then some false else (if s1.length ≤ 1000000000 then forL (fun (k : Nat) (x : S_api_Turn) (s : Unit) => slices_Equal_L_api_Turn_api_Turn__L1 s2 k x) (fun (s : Unit) => slices_Equal_L_api_Turn_api_Turn__E1) 0 s1 () else none)
noncomputable def slices_Equal_L_string_string__L1 (s2 : (List Bs)) (k4 : Nat) (x7 : Bs) : Option (Unit ⊕ (Bool)) :=
  (s2[k4]?).bind fun (x10 : Bs) => if decide (x7 ≠ x10) then (some (.inr false)) else (some (.inl ()))
noncomputable def slices_Equal_L_string_string__E1 : Option (Bool) :=
  some true
noncomputable def m_slices_Equal_L_string_string_ (s1 : (List Bs)) (s2 : (List Bs)) : Option (Bool) :=
  if decide ((s1.length : Int) ≠ (s2.length : Int)) then some false else (if s1.length ≤ 1000000000 then forL (fun (k : Nat) (x : Bs) (s : Unit) => slices_Equal_L_string_string__L1 s2 k x) (fun (s : Unit) => slices_Equal_L_string_string__E1) 0 s1 () else none)
noncomputable def upstream_weights_L1 (k3 : Nat) (x6 : S_api_Instance) (sum2 : Int) : Option (Int ⊕ (Int)) :=
  some (.inl (wr (sum2 + x6.Weight)))
noncomputable def upstream_weights_E1 (sum2 : Int) : Option (Int) :=
  some sum2
noncomputable def m_upstream_weights (l1 : (List S_api_Instance)) : Option (Int) :=
  if l1.length ≤ 1000000000 then forL (fun (k : Nat) (x : S_api_Instance) (s : Int) => upstream_weights_L1 k x s) (fun (s : Int) => upstream_weights_E1 s) 0 l1 0 else none
noncomputable def upstream_Round_J3 (v39 : Int) (v40 : (List Int)) : Option ((Int × (List Int)) ⊕ (((List Int) × (List Bs)) ⊕ ((List Bs) × Int))) :=
  some (.inl (v39, v40))
noncomputable def upstream_Round_L2 (k21 : Nat) (x24 : S_api_Instance) (v19 : Int) (l20 : (List Int)) : Option ((Int × (List Int)) ⊕ (((List Int) × (List Bs)) ⊕ ((List Bs) × Int))) :=
  (l20[k21]?).bind fun (x32 : Int) => ((l20.set k21 (wr (x32 + x24.Weight)))[k21]?).bind fun (x34 : Int) => (at? (l20.set k21 (wr (x32 + x24.Weight))) v19).bind fun (x36 : Int) => if decide (x36 < x34) then (upstream_Round_J3 (k21 : Int) (l20.set k21 (wr (x32 + x24.Weight)))) else (upstream_Round_J3 v19 (l20.set k21 (wr (x32 + x24.Weight))))
noncomputable def upstream_Round_E2 (v1 : (List S_api_Instance)) (r11 : (Int)) (l14 : (List Bs)) (v19 : Int) (l20 : (List Int)) : Option (((List Int) × (List Bs)) ⊕ ((List Bs) × Int)) :=
  (at? l20 v19).bind fun (x25 : Int) => (at? v1 v19).bind fun (x27 : S_api_Instance) => if l14.length + 1 ≤ 1000000000 then (some (.inl ((l20.set v19.toNat (wr (x25 - r11))), (l14 ++ [x27.Key])))) else none
noncomputable def upstream_Round_L1 (v1 : (List S_api_Instance)) (r11 : (Int)) (k15 : Nat) (l13 : (List Int)) (l14 : (List Bs)) : Option (((List Int) × (List Bs)) ⊕ ((List Bs) × Int)) :=
  if v1.length ≤ 1000000000 then forL (fun (k : Nat) (x : S_api_Instance) (s : Int × (List Int)) => upstream_Round_L2 k x s.1 s.2) (fun (s : Int × (List Int)) => upstream_Round_E2 v1 r11 l14 s.1 s.2) 0 v1 (0, l13) else none
noncomputable def upstream_Round_E1 (l13 : (List Int)) (l14 : (List Bs)) : Option ((List Bs) × Int) :=
  some (l14, 0)
noncomputable def m_upstream_Round (v1 : (List S_api_Instance)) (v2 : Int) : Option ((List Bs) × Int) :=
  (m_upstream_CheckInstances v1).bind fun (r3 : (Int)) => if decide (r3 ≠ 0) then (some ([], r3)) else ((m_kit_Outside v2 0 2000).bind fun (r6 : (Bool)) => if r6 then (some ([], 1)) else (if decide ((v1.length : Int) = 0) then (some ([], 8)) else (if v1.length ≤ 1000000000 then ((m_upstream_weights v1).bind fun (r11 : (Int)) => if v2 ≤ 1000000000 then rng (fun (k : Nat) (s : (List Int) × (List Bs)) => upstream_Round_L1 v1 r11 k s.1 s.2) (fun (s : (List Int) × (List Bs)) => upstream_Round_E1 s.1 s.2) v2.toNat 0 ((List.replicate v1.length 0), []) else none) else none)))
noncomputable def gatelaw2_balanced_J1 (v8 : Bool) : Option (Bool) :=
  some v8
noncomputable def m_gatelaw2_balanced  : Option (Bool) :=
  (m_upstream_Round ([(S_api_Instance.mk [97] 1), (S_api_Instance.mk [98] 2)]) 3).bind fun (r1 : ((List Bs) × Int)) => if decide (r1.2 = 0) then ((m_slices_Equal_L_string_string_ r1.1 ([[98], [97], [98]])).bind fun (r5 : (Bool)) => gatelaw2_balanced_J1 r5) else (gatelaw2_balanced_J1 false)
noncomputable def gatelaw2_HealthTurns_J5 (v67 : Bool) : Option (Bool) :=
  some v67
noncomputable def gatelaw2_HealthTurns_J4 (r10 : ((List S_api_Turn) × Int)) (r12 : ((List Bs) × Int)) (v36 : Int) (r39 : (Int)) (v44 : (List S_api_Turn)) (v48 : (List Bs)) : Option (Bool) :=
  if decide (r10.2 = v36) then ((m_slices_Equal_L_api_Turn_api_Turn_ r10.1 v44).bind fun (r51 : (Bool)) => if r51 then (if decide (r12.2 = r39) then ((m_slices_Equal_L_string_string_ r12.1 v48).bind fun (r57 : (Bool)) => if r57 then ((m_gatelaw2_balanced ).bind fun (r61 : (Bool)) => gatelaw2_HealthTurns_J5 r61) else (gatelaw2_HealthTurns_J5 false)) else (gatelaw2_HealthTurns_J5 false)) else (gatelaw2_HealthTurns_J5 false)) else (gatelaw2_HealthTurns_J5 false)
noncomputable def gatelaw2_HealthTurns_J3 (r2 : ((List S_api_Instance) × S_gatemake_Stream)) (r4 : (S_api_Health × S_gatemake_Stream)) (r6 : (Int × S_gatemake_Stream)) (r8 : ((List S_api_Probe) × S_gatemake_Stream)) (r10 : ((List S_api_Turn) × Int)) (r12 : ((List Bs) × Int)) (v36 : Int) (r39 : (Int)) (v44 : (List S_api_Turn)) : Option (Bool) :=
  if decide (r39 = 0) then ((m_gateref2_UpOf r2.1 r4.1 r8.1 r6.1).bind fun (r46 : ((List Bs))) => gatelaw2_HealthTurns_J4 r10 r12 v36 r39 v44 r46) else (gatelaw2_HealthTurns_J4 r10 r12 v36 r39 v44 [])
noncomputable def gatelaw2_HealthTurns_J2 (r2 : ((List S_api_Instance) × S_gatemake_Stream)) (r4 : (S_api_Health × S_gatemake_Stream)) (r6 : (Int × S_gatemake_Stream)) (r8 : ((List S_api_Probe) × S_gatemake_Stream)) (r10 : ((List S_api_Turn) × Int)) (r12 : ((List Bs) × Int)) (v36 : Int) : Option (Bool) :=
  (m_gatelaw2_momentFault r6.1).bind fun (r37 : (Int)) => (m_gatelaw2_errs [v36, r37]).bind fun (r39 : (Int)) => if decide (v36 = 0) then ((m_gateref2_TurnsOf r2.1 r4.1 r8.1).bind fun (r42 : ((List S_api_Turn))) => gatelaw2_HealthTurns_J3 r2 r4 r6 r8 r10 r12 v36 r39 r42) else (gatelaw2_HealthTurns_J3 r2 r4 r6 r8 r10 r12 v36 r39 [])
noncomputable def gatelaw2_HealthTurns_J1 (r2 : ((List S_api_Instance) × S_gatemake_Stream)) (r4 : (S_api_Health × S_gatemake_Stream)) (r6 : (Int × S_gatemake_Stream)) (r8 : ((List S_api_Probe) × S_gatemake_Stream)) (r10 : ((List S_api_Turn) × Int)) (r12 : ((List Bs) × Int)) (r14 : (Int)) (v27 : Bool) : Option (Bool) :=
  if v27 then some false else ((m_gateref2_HealthFault r4.1).bind fun (r29 : (Int)) => (m_gatelaw2_errs [r14, r29]).bind fun (r31 : (Int)) => if decide (r31 = 0) then ((m_gateref2_ProbesFault r2.1 r8.1).bind fun (r34 : (Int)) => gatelaw2_HealthTurns_J2 r2 r4 r6 r8 r10 r12 r34) else (gatelaw2_HealthTurns_J2 r2 r4 r6 r8 r10 r12 r31))
noncomputable def m_gatelaw2_HealthTurns (v1 : (List Int)) : Option (Bool) :=
  (m_gatemake_Stream_Instances (S_gatemake_Stream.mk v1 0)).bind fun (r2 : ((List S_api_Instance) × S_gatemake_Stream)) => (m_gatemake_Stream_Health r2.2).bind fun (r4 : (S_api_Health × S_gatemake_Stream)) => (m_gatemake_Stream_Pick r4.2 [0, 5, 20, 50, 100, (-1)]).bind fun (r6 : (Int × S_gatemake_Stream)) => (m_gatemake_Stream_Probes r6.2 r2.1).bind fun (r8 : ((List S_api_Probe) × S_gatemake_Stream)) => (m_upstream_Turns r2.1 r4.1 r8.1).bind fun (r10 : ((List S_api_Turn) × Int)) => (m_upstream_Up r2.1 r4.1 r8.1 r6.1).bind fun (r12 : ((List Bs) × Int)) => (m_gateref2_InstancesFault r2.1).bind fun (r14 : (Int)) => (m_upstream_CheckInstances r2.1).bind fun (r16 : (Int)) => if decide (r16 ≠ r14) then (gatelaw2_HealthTurns_J1 r2 r4 r6 r8 r10 r12 r14 true) else ((m_upstream_CheckProbes r2.1 r8.1).bind fun (r20 : (Int)) => (m_gateref2_ProbesFault r2.1 r8.1).bind fun (r22 : (Int)) => (m_gatelaw2_errs [r14, r22]).bind fun (r24 : (Int)) => gatelaw2_HealthTurns_J1 r2 r4 r6 r8 r10 r12 r14 (decide (r20 ≠ r24)))
noncomputable def m_gatemake_Stream_RightBudget (s1 : S_gatemake_Stream) : Option (S_api_Budget × S_gatemake_Stream) :=
  (m_gatemake_Stream_Pick s1 [1, 10, 50, 100, 1000]).bind fun (r2 : (Int × S_gatemake_Stream)) => (m_gatemake_Stream_Pick r2.2 [0, 1, 2, 5]).bind fun (r4 : (Int × S_gatemake_Stream)) => (m_gatemake_Stream_Pick r4.2 [0, 100, 333, 500, 1000]).bind fun (r6 : (Int × S_gatemake_Stream)) => some ((S_api_Budget.mk r2.1 r4.1 r6.1), r6.2)
noncomputable def gatemake_Stream_Budget_J1 (c13 : (List Int)) (c14 : Int) (c15 : Int) (c16 : Int) (c17 : Int) : Option (S_api_Budget × S_gatemake_Stream) :=
  some ((S_api_Budget.mk c15 c16 c17), (S_gatemake_Stream.mk c13 c14))
noncomputable def m_gatemake_Stream_Budget (s1 : S_gatemake_Stream) : Option (S_api_Budget × S_gatemake_Stream) :=
  (m_gatemake_Stream_RightBudget s1).bind fun (r2 : (S_api_Budget × S_gatemake_Stream)) => (m_gatemake_Stream_Flip r2.2 15).bind fun (r4 : (Bool × S_gatemake_Stream)) => if r4.1 then ((m_gatemake_Stream_Odd r4.2 1 3600000).bind fun (r7 : (Int × S_gatemake_Stream)) => (m_gatemake_Stream_Odd r7.2 0 300).bind fun (r9 : (Int × S_gatemake_Stream)) => (m_gatemake_Stream_Odd r9.2 0 1000).bind fun (r11 : (Int × S_gatemake_Stream)) => gatemake_Stream_Budget_J1 r11.2.L r11.2.at_ r7.1 r9.1 r11.1) else (gatemake_Stream_Budget_J1 r4.2.L r4.2.at_ r2.1.Window r2.1.Least r2.1.Part)
noncomputable def gatemake_Stream_Times_J2 (out24 : (List Int)) (c25 : (List Int)) (c26 : Int) : Option ((List Int) × S_gatemake_Stream) :=
  some (out24, (S_gatemake_Stream.mk c25 c26))
noncomputable def gatemake_Stream_Times_J3 (l7 : (List Int)) (v16 : Bool) (c17 : (List Int)) (c18 : Int) : Option ((List Int) × S_gatemake_Stream) :=
  if v16 then ((m_gatemake_Stream_Odd (S_gatemake_Stream.mk c17 c18) 0 100).bind fun (r20 : (Int × S_gatemake_Stream)) => (l7[0]?).bind fun (x22 : Int) => gatemake_Stream_Times_J2 (l7.set 0 r20.1) r20.2.L r20.2.at_) else (gatemake_Stream_Times_J2 l7 c17 c18)
noncomputable def gatemake_Stream_Times_L1 (k8 : Nat) (c5 : (List Int)) (c6 : Int) (l7 : (List Int)) : Option (((List Int) × Int × (List Int)) ⊕ ((List Int) × S_gatemake_Stream)) :=
  (m_gatemake_Stream_Pick (S_gatemake_Stream.mk c5 c6) [0, 1, 5, 10, 50, 99, 100, 101]).bind fun (r28 : (Int × S_gatemake_Stream)) => if l7.length + 1 ≤ 1000000000 then (some (.inl (r28.2.L, r28.2.at_, (l7 ++ [r28.1])))) else none
noncomputable def gatemake_Stream_Times_E1 (c5 : (List Int)) (c6 : Int) (l7 : (List Int)) : Option ((List Int) × S_gatemake_Stream) :=
  if decide (0 < (l7.length : Int)) then ((m_gatemake_Stream_Flip (S_gatemake_Stream.mk c5 c6) 20).bind fun (r13 : (Bool × S_gatemake_Stream)) => gatemake_Stream_Times_J3 l7 r13.1 r13.2.L r13.2.at_) else (gatemake_Stream_Times_J3 l7 false c5 c6)
noncomputable def m_gatemake_Stream_Times (s1 : S_gatemake_Stream) (most2 : Int) : Option ((List Int) × S_gatemake_Stream) :=
  (m_gatemake_Stream_Range s1 0 most2).bind fun (r3 : (Int × S_gatemake_Stream)) => if r3.1 ≤ 1000000000 then rng (fun (k : Nat) (s : (List Int) × Int × (List Int)) => gatemake_Stream_Times_L1 k s.1 s.2.1 s.2.2) (fun (s : (List Int) × Int × (List Int)) => gatemake_Stream_Times_E1 s.1 s.2.1 s.2.2) r3.1.toNat 0 (r3.2.L, r3.2.at_, []) else none
noncomputable def m_upstream_Percentile (l1 : (List Int)) (part2 : Int) : Option (Int × Int) :=
  if decide ((l1.length : Int) = 0) then (some (0, 8)) else (if decide (2000 < (l1.length : Int)) then (some (0, 2)) else ((m_kit_Outside part2 1 1000).bind fun (r5 : (Bool)) => if r5 then (some (0, 1)) else ((m_slices_Clone l1).bind fun (r8 : ((List Int))) => (m_slices_Sort_int r8).bind fun (r10 : (List Int)) => if ((0 : Int) ≤ (wr ((wr ((wr (part2 * (r10.length : Int))) + 1000)) - 1)) ∧ (wr ((wr ((wr (part2 * (r10.length : Int))) + 1000)) - 1)) ≤ 9223372036854775807) ∧ (0 : Int) < 1000 then ((at? r10 (wr (((wr ((wr ((wr (part2 * (r10.length : Int))) + 1000)) - 1)) / 1000) - 1))).bind fun (x13 : Int) => some (x13, 0)) else none)))
noncomputable def upstream_doubled_J1 (most3 : Int) (n10 : Int) : Option (Int) :=
  some (min n10 most3)
noncomputable def upstream_doubled_L2 (most3 : Int) (k5 : Nat) (n4 : Int) : Option (Int ⊕ (Int)) :=
  if decide (most3 ≤ n4) then (Option.map .inr (upstream_doubled_J1 most3 n4)) else (some (.inl (wr (n4 * 2))))
noncomputable def upstream_doubled_E2 (most3 : Int) (n4 : Int) : Option (Int) :=
  upstream_doubled_J1 most3 n4
noncomputable def m_upstream_doubled (n1 : Int) (times2 : Int) (most3 : Int) : Option (Int) :=
  if times2 ≤ 1000000000 then rng (fun (k : Nat) (s : Int) => upstream_doubled_L2 most3 k s) (fun (s : Int) => upstream_doubled_E2 most3 s) times2.toNat 0 n1 else none
noncomputable def upstream_Backoff_J1 (wait1 : Int) (most2 : Int) (v3 : Int) (v14 : Bool) : Option (Int × Int) :=
  if v14 then (some (0, 1)) else ((m_upstream_doubled wait1 (wr (v3 - 2)) most2).bind fun (r16 : (Int)) => some (r16, 0))
noncomputable def m_upstream_Backoff (wait1 : Int) (most2 : Int) (v3 : Int) : Option (Int × Int) :=
  (m_kit_Outside wait1 0 most2).bind fun (r4 : (Bool)) => if r4 then (upstream_Backoff_J1 wait1 most2 v3 true) else (if decide (3600000 < most2) then (upstream_Backoff_J1 wait1 most2 v3 true) else ((m_kit_Outside v3 2 100).bind fun (r10 : (Bool)) => upstream_Backoff_J1 wait1 most2 v3 r10))
noncomputable def upstream_CheckBudget_J1 (v14 : Bool) : Option (Int) :=
  if v14 then some 1 else some 0
noncomputable def m_upstream_CheckBudget (b1 : S_api_Budget) : Option (Int) :=
  (m_kit_Outside b1.Window 1 3600000).bind fun (r2 : (Bool)) => if r2 then (upstream_CheckBudget_J1 true) else ((m_kit_Outside b1.Least 0 300).bind fun (r6 : (Bool)) => if r6 then (upstream_CheckBudget_J1 true) else ((m_kit_Outside b1.Part 0 1000).bind fun (r10 : (Bool)) => upstream_CheckBudget_J1 r10))
noncomputable def slices_Concat_L_int_int__L2 (k10 : Nat) (x13 : (List Int)) (l9 : (List Int)) : Option ((List Int) ⊕ ((List Int))) :=
  if l9.length + x13.length ≤ 1000000000 then (some (.inl (l9 ++ x13))) else none
noncomputable def slices_Concat_L_int_int__E2 (l9 : (List Int)) : Option ((List Int)) :=
  some l9
noncomputable def slices_Concat_L_int_int__L1 (k3 : Nat) (x6 : (List Int)) (size2 : Int) : Option (Int ⊕ ((List Int))) :=
  if decide ((wr (size2 + (x6.length : Int))) < 0) then none else (some (.inl (wr (size2 + (x6.length : Int)))))
noncomputable def slices_Concat_L_int_int__E1 (slices1 : (List (List Int))) (size2 : Int) : Option ((List Int)) :=
  (m_slices_Grow size2).bind fun (r7 : ((List Int))) => if slices1.length ≤ 1000000000 then forL (fun (k : Nat) (x : (List Int)) (s : (List Int)) => slices_Concat_L_int_int__L2 k x s) (fun (s : (List Int)) => slices_Concat_L_int_int__E2 s) 0 slices1 r7 else none
noncomputable def m_slices_Concat_L_int_int_ (slices1 : (List (List Int))) : Option ((List Int)) :=
  if slices1.length ≤ 1000000000 then forL (fun (k : Nat) (x : (List Int)) (s : Int) => slices_Concat_L_int_int__L1 k x s) (fun (s : Int) => slices_Concat_L_int_int__E1 slices1 s) 0 slices1 0 else none
noncomputable def upstream_may_1_J2 (n12 : Int) : Option (Int ⊕ (Int)) :=
  some (.inl n12)
noncomputable def upstream_may_1_L1 (c2 : Int) (c3 : S_api_Budget) (k5 : Nat) (x8 : Int) (n4 : Int) : Option (Int ⊕ (Int)) :=
  if ((decide ((wr (c2 - c3.Window)) < x8)) && (decide (x8 ≤ c2))) then (upstream_may_1_J2 (wr (n4 + 1))) else (upstream_may_1_J2 n4)
noncomputable def upstream_may_1_E1 (n4 : Int) : Option (Int) :=
  some n4
noncomputable def m_upstream_may_1 (l1 : (List Int)) (c2 : Int) (c3 : S_api_Budget) : Option (Int) :=
  if l1.length ≤ 1000000000 then forL (fun (k : Nat) (x : Int) (s : Int) => upstream_may_1_L1 c2 c3 k x s) (fun (s : Int) => upstream_may_1_E1 s) 0 l1 0 else none
noncomputable def m_upstream_may (b1 : S_api_Budget) (calls2 : (List Int)) (again3 : (List Int)) (v4 : Int) : Option (Bool) :=
  (m_upstream_may_1 again3 v4 b1).bind fun (r5 : (Int)) => (m_upstream_may_1 calls2 v4 b1).bind fun (r7 : (Int)) => if ((0 : Int) ≤ (wr (b1.Part * r7)) ∧ (wr (b1.Part * r7)) ≤ 9223372036854775807) ∧ (0 : Int) < 1000 then (some (decide (r5 < (wr (b1.Least + ((wr (b1.Part * r7)) / 1000)))))) else none
noncomputable def upstream_May_L1 (v4 : Int) (r9 : ((List Int))) (k12 : Nat) : Option (Unit ⊕ (Bool × Int)) :=
  ((r9 ++ [v4])[k12]?).bind fun (x18 : Int) => (m_kit_IsMoment x18).bind fun (r20 : (Bool)) => if !r20 then (some (.inr (false, 1))) else (some (.inl ()))
noncomputable def upstream_May_E1 (b1 : S_api_Budget) (calls2 : (List Int)) (again3 : (List Int)) (v4 : Int) : Option (Bool × Int) :=
  (m_upstream_may b1 calls2 again3 v4).bind fun (r15 : (Bool)) => some (r15, 0)
noncomputable def m_upstream_May (b1 : S_api_Budget) (calls2 : (List Int)) (again3 : (List Int)) (v4 : Int) : Option (Bool × Int) :=
  (m_upstream_CheckBudget b1).bind fun (r5 : (Int)) => if decide (r5 ≠ 0) then (some (false, r5)) else (if ((decide (2000 < (calls2.length : Int))) || (decide (2000 < (again3.length : Int)))) then (some (false, 2)) else ((m_slices_Concat_L_int_int_ [calls2, again3]).bind fun (r9 : ((List Int))) => if r9.length + 1 ≤ 1000000000 then (if (r9 ++ [v4]).length ≤ 1000000000 then rng (fun (k : Nat) (s : Unit) => upstream_May_L1 v4 r9 k) (fun (s : Unit) => upstream_May_E1 b1 calls2 again3 v4) ((r9 ++ [v4]).length) 0 () else none) else none))
noncomputable def gateref2_BackoffFault_J1 (v14 : Bool) : Option (Int) :=
  if v14 then some 1 else some 0
noncomputable def m_gateref2_BackoffFault (wait1 : Int) (most2 : Int) (v3 : Int) : Option (Int) :=
  (m_gateref2_in wait1 0 most2).bind fun (r4 : (Bool)) => if !r4 then (gateref2_BackoffFault_J1 true) else (if decide (3600000 < most2) then (gateref2_BackoffFault_J1 true) else ((m_gateref2_in v3 2 100).bind fun (r10 : (Bool)) => gateref2_BackoffFault_J1 (!r10)))
noncomputable def gateref2_BudgetFault_J1 (v14 : Bool) : Option (Int) :=
  if v14 then some 1 else some 0
noncomputable def m_gateref2_BudgetFault (b1 : S_api_Budget) : Option (Int) :=
  (m_gateref2_in b1.Window 1 3600000).bind fun (r2 : (Bool)) => if !r2 then (gateref2_BudgetFault_J1 true) else ((m_gateref2_in b1.Least 0 300).bind fun (r6 : (Bool)) => if !r6 then (gateref2_BudgetFault_J1 true) else ((m_gateref2_in b1.Part 0 1000).bind fun (r10 : (Bool)) => gateref2_BudgetFault_J1 (!r10)))
noncomputable def gateref2_PercentileOf_J4 (many20 : Int) : Option (Int ⊕ ((Int × Bool) ⊕ (Int))) :=
  some (.inl many20)
noncomputable def gateref2_PercentileOf_L3 (x8 : Int) (k12 : Nat) (x15 : Int) (many11 : Int) : Option (Int ⊕ ((Int × Bool) ⊕ (Int))) :=
  if decide (x15 ≤ x8) then (gateref2_PercentileOf_J4 (wr (many11 + 1))) else (gateref2_PercentileOf_J4 many11)
noncomputable def gateref2_PercentileOf_J2 (least21 : Int) (found22 : Bool) : Option ((Int × Bool) ⊕ (Int)) :=
  some (.inl (least21, found22))
noncomputable def gateref2_PercentileOf_E3 (l1 : (List Int)) (part2 : Int) (least3 : Int) (found4 : Bool) (x8 : Int) (many11 : Int) : Option ((Int × Bool) ⊕ (Int)) :=
  if ((decide ((wr (part2 * (l1.length : Int))) ≤ (wr (many11 * 1000)))) && ((!found4) || (decide (x8 < least3)))) then (gateref2_PercentileOf_J2 x8 true) else (gateref2_PercentileOf_J2 least3 found4)
noncomputable def gateref2_PercentileOf_L1 (l1 : (List Int)) (part2 : Int) (k5 : Nat) (x8 : Int) (least3 : Int) (found4 : Bool) : Option ((Int × Bool) ⊕ (Int)) :=
  if l1.length ≤ 1000000000 then forL (fun (k : Nat) (x : Int) (s : Int) => gateref2_PercentileOf_L3 x8 k x s) (fun (s : Int) => gateref2_PercentileOf_E3 l1 part2 least3 found4 x8 s) 0 l1 0 else none
noncomputable def gateref2_PercentileOf_E1 (least3 : Int) (found4 : Bool) : Option (Int) :=
  some least3
noncomputable def m_gateref2_PercentileOf (l1 : (List Int)) (part2 : Int) : Option (Int) :=
  if l1.length ≤ 1000000000 then forL (fun (k : Nat) (x : Int) (s : Int × Bool) => gateref2_PercentileOf_L1 l1 part2 k x s.1 s.2) (fun (s : Int × Bool) => gateref2_PercentileOf_E1 s.1 s.2) 0 l1 (0, false) else none
noncomputable def gateref2_BackoffOf_L1 (most2 : Int) (k5 : Nat) (wait4 : Int) : Option (Int ⊕ (Int)) :=
  some (.inl (min (wr (2 * wait4)) most2))
noncomputable def gateref2_BackoffOf_E1 (wait4 : Int) : Option (Int) :=
  some wait4
noncomputable def m_gateref2_BackoffOf (wait1 : Int) (most2 : Int) (v3 : Int) : Option (Int) :=
  if (wr (v3 - 2)) ≤ 1000000000 then rng (fun (k : Nat) (s : Int) => gateref2_BackoffOf_L1 most2 k s) (fun (s : Int) => gateref2_BackoffOf_E1 s) ((wr (v3 - 2)).toNat) 0 wait1 else none
noncomputable def gateref2_MayOf_1_J2 (n14 : Int) : Option (Int ⊕ (Int)) :=
  some (.inl n14)
noncomputable def gateref2_MayOf_1_L1 (c2 : Int) (c3 : S_api_Budget) (k5 : Nat) (x8 : Int) (n4 : Int) : Option (Int ⊕ (Int)) :=
  (m_gateref2_in x8 (wr ((wr (c2 - c3.Window)) + 1)) c2).bind fun (r11 : (Bool)) => if r11 then (gateref2_MayOf_1_J2 (wr (n4 + 1))) else (gateref2_MayOf_1_J2 n4)
noncomputable def gateref2_MayOf_1_E1 (n4 : Int) : Option (Int) :=
  some n4
noncomputable def m_gateref2_MayOf_1 (l1 : (List Int)) (c2 : Int) (c3 : S_api_Budget) : Option (Int) :=
  if l1.length ≤ 1000000000 then forL (fun (k : Nat) (x : Int) (s : Int) => gateref2_MayOf_1_L1 c2 c3 k x s) (fun (s : Int) => gateref2_MayOf_1_E1 s) 0 l1 0 else none
noncomputable def m_gateref2_MayOf (b1 : S_api_Budget) (calls2 : (List Int)) (again3 : (List Int)) (v4 : Int) : Option (Bool) :=
  (m_gateref2_MayOf_1 again3 v4 b1).bind fun (r5 : (Int)) => (m_gateref2_MayOf_1 calls2 v4 b1).bind fun (r7 : (Int)) => if ((0 : Int) ≤ (wr (b1.Part * r7)) ∧ (wr (b1.Part * r7)) ≤ 9223372036854775807) ∧ (0 : Int) < 1000 then (some (decide (r5 < (wr (b1.Least + ((wr (b1.Part * r7)) / 1000)))))) else none
noncomputable def gatelaw2_TriesAgain_J6 (v101 : Bool) : Option (Bool) :=
  some v101
noncomputable def gatelaw2_TriesAgain_J5 (r29 : (S_api_Budget × S_gatemake_Stream)) (r31 : ((List Int) × S_gatemake_Stream)) (r33 : ((List Int) × S_gatemake_Stream)) (r35 : (Int × S_gatemake_Stream)) (r37 : (Int × Int)) (r39 : (Int × Int)) (r41 : (Bool × Int)) (r47 : (Int)) (r49 : (Int)) (v58 : Int) (v66 : Int) (v70 : Int) : Option (Bool) :=
  if decide (r37.2 = r47) then (if decide (r37.1 = v66) then (if decide (r39.2 = r49) then (if decide (r39.1 = v70) then (if decide (r41.2 = v58) then (if decide (v58 = 0) then ((m_gateref2_MayOf r29.1 r31.1 r33.1 r35.1).bind fun (r83 : (Bool)) => if (r41.1 == r83) then ((m_gatelaw2_balanced ).bind fun (r87 : (Bool)) => gatelaw2_TriesAgain_J6 r87) else (gatelaw2_TriesAgain_J6 false)) else (if (r41.1 == false) then ((m_gatelaw2_balanced ).bind fun (r93 : (Bool)) => gatelaw2_TriesAgain_J6 r93) else (gatelaw2_TriesAgain_J6 false))) else (gatelaw2_TriesAgain_J6 false)) else (gatelaw2_TriesAgain_J6 false)) else (gatelaw2_TriesAgain_J6 false)) else (gatelaw2_TriesAgain_J6 false)) else (gatelaw2_TriesAgain_J6 false)
noncomputable def gatelaw2_TriesAgain_J4 (r16 : (Int × S_gatemake_Stream)) (v25 : Int) (v26 : Int) (r29 : (S_api_Budget × S_gatemake_Stream)) (r31 : ((List Int) × S_gatemake_Stream)) (r33 : ((List Int) × S_gatemake_Stream)) (r35 : (Int × S_gatemake_Stream)) (r37 : (Int × Int)) (r39 : (Int × Int)) (r41 : (Bool × Int)) (r47 : (Int)) (r49 : (Int)) (v58 : Int) (v66 : Int) : Option (Bool) :=
  if decide (r49 = 0) then ((m_gateref2_BackoffOf v25 v26 r16.1).bind fun (r68 : (Int)) => gatelaw2_TriesAgain_J5 r29 r31 r33 r35 r37 r39 r41 r47 r49 v58 v66 r68) else (gatelaw2_TriesAgain_J5 r29 r31 r33 r35 r37 r39 r41 r47 r49 v58 v66 0)
noncomputable def gatelaw2_TriesAgain_L3 (k59 : Nat) (x62 : Int) (v58 : Int) : Option (Int ⊕ (Bool)) :=
  (m_gatelaw2_momentFault x62).bind fun (r104 : (Int)) => (m_gatelaw2_errs [v58, r104]).bind fun (r106 : (Int)) => some (.inl r106)
noncomputable def gatelaw2_TriesAgain_E3 (l6 : (List Int)) (r10 : (Int × S_gatemake_Stream)) (r16 : (Int × S_gatemake_Stream)) (v25 : Int) (v26 : Int) (r29 : (S_api_Budget × S_gatemake_Stream)) (r31 : ((List Int) × S_gatemake_Stream)) (r33 : ((List Int) × S_gatemake_Stream)) (r35 : (Int × S_gatemake_Stream)) (r37 : (Int × Int)) (r39 : (Int × Int)) (r41 : (Bool × Int)) (r47 : (Int)) (r49 : (Int)) (v58 : Int) : Option (Bool) :=
  if decide (r47 = 0) then ((m_gateref2_PercentileOf l6 r10.1).bind fun (r64 : (Int)) => gatelaw2_TriesAgain_J4 r16 v25 v26 r29 r31 r33 r35 r37 r39 r41 r47 r49 v58 r64) else (gatelaw2_TriesAgain_J4 r16 v25 v26 r29 r31 r33 r35 r37 r39 r41 r47 r49 v58 0)
noncomputable def gatelaw2_TriesAgain_J2 (l6 : (List Int)) (r10 : (Int × S_gatemake_Stream)) (r16 : (Int × S_gatemake_Stream)) (v25 : Int) (v26 : Int) (c27 : (List Int)) (c28 : Int) : Option (Bool) :=
  (m_gatemake_Stream_Budget (S_gatemake_Stream.mk c27 c28)).bind fun (r29 : (S_api_Budget × S_gatemake_Stream)) => (m_gatemake_Stream_Times r29.2 8).bind fun (r31 : ((List Int) × S_gatemake_Stream)) => (m_gatemake_Stream_Times r31.2 6).bind fun (r33 : ((List Int) × S_gatemake_Stream)) => (m_gatemake_Stream_Pick r33.2 [0, 5, 50, 100, 150, (-1)]).bind fun (r35 : (Int × S_gatemake_Stream)) => (m_upstream_Percentile l6 r10.1).bind fun (r37 : (Int × Int)) => (m_upstream_Backoff v25 v26 r16.1).bind fun (r39 : (Int × Int)) => (m_upstream_May r29.1 r31.1 r33.1 r35.1).bind fun (r41 : (Bool × Int)) => (m_gatelaw2_when (decide ((l6.length : Int) = 0)) 8).bind fun (r43 : (Int)) => (m_gatelaw2_when ((decide (r10.1 < 1)) || (decide (1000 < r10.1))) 1).bind fun (r45 : (Int)) => (m_gatelaw2_errs [r43, r45]).bind fun (r47 : (Int)) => (m_gateref2_BackoffFault v25 v26 r16.1).bind fun (r49 : (Int)) => (m_gateref2_BudgetFault r29.1).bind fun (r51 : (Int)) => (m_upstream_CheckBudget r29.1).bind fun (r53 : (Int)) => if decide (r53 ≠ r51) then some false else ((m_slices_Concat_L_int_int_ ([r31.1, r33.1, [r35.1]])).bind fun (r56 : ((List Int))) => if r56.length ≤ 1000000000 then forL (fun (k : Nat) (x : Int) (s : Int) => gatelaw2_TriesAgain_L3 k x s) (fun (s : Int) => gatelaw2_TriesAgain_E3 l6 r10 r16 v25 v26 r29 r31 r33 r35 r37 r39 r41 r47 r49 s) 0 r56 r51 else none)
noncomputable def gatelaw2_TriesAgain_L1 (k7 : Nat) (c4 : (List Int)) (c5 : Int) (l6 : (List Int)) : Option (((List Int) × Int × (List Int)) ⊕ (Bool)) :=
  (m_gatemake_Stream_Pick (S_gatemake_Stream.mk c4 c5) [0, 1, 2, 5, 9, (-4), 100]).bind fun (r109 : (Int × S_gatemake_Stream)) => if l6.length + 1 ≤ 1000000000 then (some (.inl (r109.2.L, r109.2.at_, (l6 ++ [r109.1])))) else none
noncomputable def gatelaw2_TriesAgain_E1 (c4 : (List Int)) (c5 : Int) (l6 : (List Int)) : Option (Bool) :=
  (m_gatemake_Stream_Pick (S_gatemake_Stream.mk c4 c5) [1, 250, 500, 501, 900, 999, 1000, 0, 1001]).bind fun (r10 : (Int × S_gatemake_Stream)) => (m_gatemake_Stream_Pick r10.2 [0, 1, 10, 100]).bind fun (r12 : (Int × S_gatemake_Stream)) => (m_gatemake_Stream_Pick r12.2 [100, 150, 1000, 3600000]).bind fun (r14 : (Int × S_gatemake_Stream)) => (m_gatemake_Stream_Pick r14.2 [2, 3, 4, 5, 100, 1, 101]).bind fun (r16 : (Int × S_gatemake_Stream)) => (m_gatemake_Stream_Flip r16.2 12).bind fun (r18 : (Bool × S_gatemake_Stream)) => if r18.1 then ((m_gatemake_Stream_Odd r18.2 0 100).bind fun (r21 : (Int × S_gatemake_Stream)) => (m_gatemake_Stream_Odd r21.2 0 3600000).bind fun (r23 : (Int × S_gatemake_Stream)) => gatelaw2_TriesAgain_J2 l6 r10 r16 r21.1 r23.1 r23.2.L r23.2.at_) else (gatelaw2_TriesAgain_J2 l6 r10 r16 r12.1 r14.1 r18.2.L r18.2.at_)
noncomputable def m_gatelaw2_TriesAgain (v1 : (List Int)) : Option (Bool) :=
  (m_gatemake_Stream_Range (S_gatemake_Stream.mk v1 0) 0 8).bind fun (r2 : (Int × S_gatemake_Stream)) => if r2.1 ≤ 1000000000 then rng (fun (k : Nat) (s : (List Int) × Int × (List Int)) => gatelaw2_TriesAgain_L1 k s.1 s.2.1 s.2.2) (fun (s : (List Int) × Int × (List Int)) => gatelaw2_TriesAgain_E1 s.1 s.2.1 s.2.2) r2.1.toNat 0 (r2.2.L, r2.2.at_, []) else none
end Go.Proofs.Ytmcegaabopcmfaa
