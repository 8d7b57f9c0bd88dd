/- Plain models of functions. Printed by a program. -/
import Derived.Test.YtecnjgefohnkpaaMc
namespace Go.Proofs.Ytecnjgefohnkpaa
set_option linter.unusedVariables false
set_option maxRecDepth 20000
structure S_gatemake_Stream where
  L : (List Int)
  at_ : Int
structure S_api_Instance where
  Key : Bs
  Weight : Int
structure S_api_Outliers where
  Fails : Int
  Base : Int
  Most : Int
  Share : Int
structure S_api_Result where
  At : Int
  Instance : Bs
  Status : Int
structure S_upstream_standing where
  row_ : Int
  until_ : Int
  times_ : Int
structure S_upstream_standings where
  o_ : S_api_Outliers
  list_ : (List S_upstream_standing)
structure S_gateref2_bench where
  l_ : (List S_api_Instance)
  o_ : S_api_Outliers
  row_ : (Nat × (Bs → Int))
  times_ : (Nat × (Bs → Int))
  until_ : (Nat × (Bs → Int))
noncomputable def gatemake_Below_J1 (x6 : Int) : Option (Int) :=
  some x6
noncomputable def m_gatemake_Below (x1 : Int) (n2 : Int) : Option (Int) :=
  if decide (n2 < 1) then some 0 else (if n2 ≠ 0 then (if decide ((Int.tmod x1 n2) < 0) then (gatemake_Below_J1 (wr ((Int.tmod x1 n2) + n2))) else (gatemake_Below_J1 (Int.tmod x1 n2))) else none)
noncomputable def m_gatemake_Stream_Next (s1 : S_gatemake_Stream) (n2 : Int) : Option (Int × S_gatemake_Stream) :=
  if decide ((s1.L.length : Int) = 0) then ((m_gatemake_Below (wr ((wr (s1.at_ + 1)) * 7919)) n2).bind fun (r4 : (Int)) => some (r4, (S_gatemake_Stream.mk s1.L (wr (s1.at_ + 1))))) else (if (s1.L.length : Int) ≠ 0 then (if ((0 : Int) ≤ (wr ((wr (s1.at_ + 1)) - 1)) ∧ (wr ((wr (s1.at_ + 1)) - 1)) ≤ 9223372036854775807) ∧ (0 : Int) < (s1.L.length : Int) then ((at? s1.L (Int.tmod (wr ((wr (s1.at_ + 1)) - 1)) (s1.L.length : Int))).bind fun (x8 : Int) => (m_gatemake_Below x8 1073741824).bind fun (r10 : (Int)) => (m_gatemake_Below (wr (r10 + (wr (((wr ((wr (s1.at_ + 1)) - 1)) / (s1.L.length : Int)) * (wr (7919 + (Int.tmod (wr ((wr (s1.at_ + 1)) - 1)) (s1.L.length : Int)))))))) n2).bind fun (r12 : (Int)) => some (r12, (S_gatemake_Stream.mk s1.L (wr (s1.at_ + 1))))) else none) else none)
noncomputable def m_gatemake_Stream_Flip (s1 : S_gatemake_Stream) (n2 : Int) : Option (Bool × S_gatemake_Stream) :=
  (m_gatemake_Stream_Next s1 n2).bind fun (r3 : (Int × S_gatemake_Stream)) => some (decide (r3.1 = 0), r3.2)
noncomputable def m_gatemake_Stream_Pick (s1 : S_gatemake_Stream) (l2 : (List Int)) : Option (Int × S_gatemake_Stream) :=
  (m_gatemake_Stream_Next s1 (l2.length : Int)).bind fun (r3 : (Int × S_gatemake_Stream)) => (at? l2 r3.1).bind fun (x5 : Int) => some (x5, r3.2)
noncomputable def gatemake_Stream_RightInstances_J2 (out28 : (List S_api_Instance)) (c29 : (List Int)) (c30 : Int) : Option (((List Int) × Int × (List S_api_Instance)) ⊕ ((List S_api_Instance) × S_gatemake_Stream)) :=
  some (.inl (c29, c30, out28))
noncomputable def gatemake_Stream_RightInstances_J3 (l4 : (List S_api_Instance)) (x8 : Bs) (v21 : Bool) (c22 : (List Int)) (c23 : Int) : Option (((List Int) × Int × (List S_api_Instance)) ⊕ ((List S_api_Instance) × S_gatemake_Stream)) :=
  if v21 then ((m_gatemake_Stream_Pick (S_gatemake_Stream.mk c22 c23) [1, 1, 2, 3, 5]).bind fun (r25 : (Int × S_gatemake_Stream)) => if l4.length + 1 ≤ 1000000000 then (gatemake_Stream_RightInstances_J2 (l4 ++ [(S_api_Instance.mk x8 r25.1)]) r25.2.L r25.2.at_) else none) else (gatemake_Stream_RightInstances_J2 l4 c22 c23)
noncomputable def gatemake_Stream_RightInstances_L1 (k5 : Nat) (x8 : Bs) (c2 : (List Int)) (c3 : Int) (l4 : (List S_api_Instance)) : Option (((List Int) × Int × (List S_api_Instance)) ⊕ ((List S_api_Instance) × S_gatemake_Stream)) :=
  if decide ((l4.length : Int) = 0) then (if decide (x8 = [105, 100]) then (gatemake_Stream_RightInstances_J3 l4 x8 true c2 c3) else ((m_gatemake_Stream_Flip (S_gatemake_Stream.mk c2 c3) 4).bind fun (r15 : (Bool × S_gatemake_Stream)) => gatemake_Stream_RightInstances_J3 l4 x8 (!r15.1) r15.2.L r15.2.at_)) else ((m_gatemake_Stream_Flip (S_gatemake_Stream.mk c2 c3) 4).bind fun (r19 : (Bool × S_gatemake_Stream)) => gatemake_Stream_RightInstances_J3 l4 x8 (!r19.1) r19.2.L r19.2.at_)
noncomputable def gatemake_Stream_RightInstances_E1 (c2 : (List Int)) (c3 : Int) (l4 : (List S_api_Instance)) : Option ((List S_api_Instance) × S_gatemake_Stream) :=
  some (l4, (S_gatemake_Stream.mk c2 c3))
noncomputable def m_gatemake_Stream_RightInstances (s1 : S_gatemake_Stream) : Option ((List S_api_Instance) × S_gatemake_Stream) :=
  if ([[105, 97], [105, 98], [105, 99], [105, 100]]).length ≤ 1000000000 then forL (fun (k : Nat) (x : Bs) (s : (List Int) × Int × (List S_api_Instance)) => gatemake_Stream_RightInstances_L1 k x s.1 s.2.1 s.2.2) (fun (s : (List Int) × Int × (List S_api_Instance)) => gatemake_Stream_RightInstances_E1 s.1 s.2.1 s.2.2) 0 ([[105, 97], [105, 98], [105, 99], [105, 100]]) (s1.L, s1.at_, []) else none
noncomputable def m_gatemake_Stream_Some (s1 : S_gatemake_Stream) (l2 : (List Bs)) : Option (Bs × S_gatemake_Stream) :=
  (m_gatemake_Stream_Next s1 (l2.length : Int)).bind fun (r3 : (Int × S_gatemake_Stream)) => (at? l2 r3.1).bind fun (x5 : Bs) => some (x5, r3.2)
noncomputable def m_gatemake_Stream_Range (s1 : S_gatemake_Stream) (low2 : Int) (high3 : Int) : Option (Int × S_gatemake_Stream) :=
  if decide (high3 < low2) then (some (low2, s1)) else ((m_gatemake_Stream_Next s1 (wr ((wr (high3 - low2)) + 1))).bind fun (r5 : (Int × S_gatemake_Stream)) => some (wr (low2 + r5.1), r5.2))
noncomputable def m_gatemake_Stream_Odd (s1 : S_gatemake_Stream) (low2 : Int) (high3 : Int) : Option (Int × S_gatemake_Stream) :=
  (m_gatemake_Stream_Flip s1 12).bind fun (r4 : (Bool × S_gatemake_Stream)) => if r4.1 then ((m_gatemake_Stream_Pick r4.2 [wr (low2 - 1), wr (high3 + 1), low2, high3, (-1099511627776), 1099511627776]).bind fun (r7 : (Int × S_gatemake_Stream)) => some (r7.1, r7.2)) else ((m_gatemake_Stream_Range r4.2 low2 high3).bind fun (r9 : (Int × S_gatemake_Stream)) => some (r9.1, r9.2))
noncomputable def gatemake_Stream_Instances_J1 (out15 : (List S_api_Instance)) (c16 : (List Int)) (c17 : Int) : Option ((List S_api_Instance) × S_gatemake_Stream) :=
  (m_gatemake_Stream_Flip (S_gatemake_Stream.mk c16 c17) 25).bind fun (r18 : (Bool × S_gatemake_Stream)) => if r18.1 then (some ([], r18.2)) else (some (out15, r18.2))
noncomputable def m_gatemake_Stream_Instances (s1 : S_gatemake_Stream) : Option ((List S_api_Instance) × S_gatemake_Stream) :=
  (m_gatemake_Stream_RightInstances s1).bind fun (r2 : ((List S_api_Instance) × S_gatemake_Stream)) => (m_gatemake_Stream_Flip r2.2 15).bind fun (r4 : (Bool × S_gatemake_Stream)) => if r4.1 then ((m_gatemake_Stream_Next r4.2 (r2.1.length : Int)).bind fun (r7 : (Int × S_gatemake_Stream)) => (at? r2.1 r7.1).bind fun (x9 : S_api_Instance) => (m_gatemake_Stream_Some r7.2 ([x9.Key, [], [65], [105, 97]])).bind fun (r11 : (Bs × S_gatemake_Stream)) => (m_gatemake_Stream_Odd r11.2 1 100).bind fun (r13 : (Int × S_gatemake_Stream)) => gatemake_Stream_Instances_J1 ((r2.1.set r7.1.toNat (S_api_Instance.mk r11.1 x9.Weight)).set r7.1.toNat (S_api_Instance.mk r11.1 r13.1)) r13.2.L r13.2.at_) else (gatemake_Stream_Instances_J1 r2.1 r4.2.L r4.2.at_)
noncomputable def m_gatemake_Stream_RightOutliers (s1 : S_gatemake_Stream) : Option (S_api_Outliers × S_gatemake_Stream) :=
  (m_gatemake_Stream_Pick s1 [1, 2, 2, 3]).bind fun (r2 : (Int × S_gatemake_Stream)) => (m_gatemake_Stream_Pick r2.2 [1, 5, 10]).bind fun (r4 : (Int × S_gatemake_Stream)) => (m_gatemake_Stream_Pick r4.2 [0, 333, 500, 1000]).bind fun (r6 : (Int × S_gatemake_Stream)) => (m_gatemake_Stream_Pick r6.2 [1, 2, 3, 8]).bind fun (r8 : (Int × S_gatemake_Stream)) => some ((S_api_Outliers.mk r2.1 r4.1 (wr (r4.1 * r8.1)) r6.1), r8.2)
noncomputable def gatemake_Stream_Outliers_J1 (c15 : (List Int)) (c16 : Int) (c17 : Int) (c18 : Int) (c19 : Int) (c20 : Int) : Option (S_api_Outliers × S_gatemake_Stream) :=
  some ((S_api_Outliers.mk c17 c18 c19 c20), (S_gatemake_Stream.mk c15 c16))
noncomputable def m_gatemake_Stream_Outliers (s1 : S_gatemake_Stream) : Option (S_api_Outliers × S_gatemake_Stream) :=
  (m_gatemake_Stream_RightOutliers s1).bind fun (r2 : (S_api_Outliers × S_gatemake_Stream)) => (m_gatemake_Stream_Flip r2.2 15).bind fun (r4 : (Bool × S_gatemake_Stream)) => if r4.1 then ((m_gatemake_Stream_Odd r4.2 1 100).bind fun (r7 : (Int × S_gatemake_Stream)) => (m_gatemake_Stream_Odd r7.2 1 20).bind fun (r9 : (Int × S_gatemake_Stream)) => (m_gatemake_Stream_Odd r9.2 1 3600000).bind fun (r11 : (Int × S_gatemake_Stream)) => (m_gatemake_Stream_Odd r11.2 0 1000).bind fun (r13 : (Int × S_gatemake_Stream)) => gatemake_Stream_Outliers_J1 r13.2.L r13.2.at_ r7.1 r9.1 r11.1 r13.1) else (gatemake_Stream_Outliers_J1 r4.2.L r4.2.at_ r2.1.Fails r2.1.Base r2.1.Most r2.1.Share)
noncomputable def m_gatemake_Stream_InstanceKey (s1 : S_gatemake_Stream) : Option (Bs × S_gatemake_Stream) :=
  (m_gatemake_Stream_Flip s1 40).bind fun (r2 : (Bool × S_gatemake_Stream)) => if r2.1 then ((m_gatemake_Stream_Some r2.2 ([[], [110, 111, 110, 101]])).bind fun (r5 : (Bs × S_gatemake_Stream)) => some (r5.1, r5.2)) else ((m_gatemake_Stream_Some r2.2 ([[105, 97], [105, 98], [105, 99], [105, 100]])).bind fun (r7 : (Bs × S_gatemake_Stream)) => some (r7.1, r7.2))
noncomputable def gatemake_Stream_Results_J4 (v5 : Int) (l8 : (List S_api_Result)) (r13 : (Int × S_gatemake_Stream)) (c34 : Bs) (c42 : (List Int)) (c43 : Int) (c44 : Int) (c45 : Int) : Option ((Int × (List Int) × Int × (List S_api_Result)) ⊕ ((List S_api_Result) × S_gatemake_Stream)) :=
  if l8.length + 1 ≤ 1000000000 then (some (.inl (wr (v5 + r13.1), c42, c43, (l8 ++ [(S_api_Result.mk c44 c34 c45)])))) else none
noncomputable def gatemake_Stream_Results_J2 (v5 : Int) (l8 : (List S_api_Result)) (r13 : (Int × S_gatemake_Stream)) (r17 : (Int × S_gatemake_Stream)) (c32 : (List Int)) (c33 : Int) (c34 : Bs) : Option ((Int × (List Int) × Int × (List S_api_Result)) ⊕ ((List S_api_Result) × S_gatemake_Stream)) :=
  (m_gatemake_Stream_Flip (S_gatemake_Stream.mk c32 c33) 80).bind fun (r35 : (Bool × S_gatemake_Stream)) => if r35.1 then ((m_gatemake_Stream_Odd r35.2 0 50).bind fun (r38 : (Int × S_gatemake_Stream)) => (m_gatemake_Stream_Odd r38.2 100 599).bind fun (r40 : (Int × S_gatemake_Stream)) => gatemake_Stream_Results_J4 v5 l8 r13 c34 r40.2.L r40.2.at_ r38.1 r40.1) else (gatemake_Stream_Results_J4 v5 l8 r13 c34 r35.2.L r35.2.at_ (wr (v5 + r13.1)) r17.1)
noncomputable def gatemake_Stream_Results_J3 (l2 : (List S_api_Instance)) (v5 : Int) (l8 : (List S_api_Result)) (r13 : (Int × S_gatemake_Stream)) (r15 : (Bs × S_gatemake_Stream)) (r17 : (Int × S_gatemake_Stream)) (v24 : Bool) (c25 : (List Int)) (c26 : Int) : Option ((Int × (List Int) × Int × (List S_api_Result)) ⊕ ((List S_api_Result) × S_gatemake_Stream)) :=
  if v24 then ((m_gatemake_Stream_Next (S_gatemake_Stream.mk c25 c26) (l2.length : Int)).bind fun (r28 : (Int × S_gatemake_Stream)) => (at? l2 r28.1).bind fun (x30 : S_api_Instance) => gatemake_Stream_Results_J2 v5 l8 r13 r17 r28.2.L r28.2.at_ x30.Key) else (gatemake_Stream_Results_J2 v5 l8 r13 r17 c25 c26 r15.1)
noncomputable def gatemake_Stream_Results_L1 (l2 : (List S_api_Instance)) (k9 : Nat) (v5 : Int) (c6 : (List Int)) (c7 : Int) (l8 : (List S_api_Result)) : Option ((Int × (List Int) × Int × (List S_api_Result)) ⊕ ((List S_api_Result) × S_gatemake_Stream)) :=
  (m_gatemake_Stream_Pick (S_gatemake_Stream.mk c6 c7) [0, 1, 5, 10]).bind fun (r13 : (Int × S_gatemake_Stream)) => (m_gatemake_Stream_InstanceKey r13.2).bind fun (r15 : (Bs × S_gatemake_Stream)) => (m_gatemake_Stream_Pick r15.2 [0, 200, 404, 500, 503, 599]).bind fun (r17 : (Int × S_gatemake_Stream)) => if decide (0 < (l2.length : Int)) then ((m_gatemake_Stream_Flip r17.2 60).bind fun (r21 : (Bool × S_gatemake_Stream)) => gatemake_Stream_Results_J3 l2 v5 l8 r13 r15 r17 (!r21.1) r21.2.L r21.2.at_) else (gatemake_Stream_Results_J3 l2 v5 l8 r13 r15 r17 false r17.2.L r17.2.at_)
noncomputable def gatemake_Stream_Results_E1 (v5 : Int) (c6 : (List Int)) (c7 : Int) (l8 : (List S_api_Result)) : Option ((List S_api_Result) × S_gatemake_Stream) :=
  some (l8, (S_gatemake_Stream.mk c6 c7))
noncomputable def m_gatemake_Stream_Results (s1 : S_gatemake_Stream) (l2 : (List S_api_Instance)) : Option ((List S_api_Result) × S_gatemake_Stream) :=
  (m_gatemake_Stream_Range s1 0 18).bind fun (r3 : (Int × S_gatemake_Stream)) => if r3.1 ≤ 1000000000 then rng (fun (k : Nat) (s : Int × (List Int) × Int × (List S_api_Result)) => gatemake_Stream_Results_L1 l2 k s.1 s.2.1 s.2.2.1 s.2.2.2) (fun (s : Int × (List Int) × Int × (List S_api_Result)) => gatemake_Stream_Results_E1 s.1 s.2.1 s.2.2.1 s.2.2.2) r3.1.toNat 0 (0, r3.2.L, r3.2.at_, []) else none
noncomputable def kit_IsKey_L1 (i2 : Nat) (x5 : UInt8) : Option (Unit ⊕ (Bool)) :=
  if !(((decide (97 ≤ (x5.toNat : Int))) && (decide ((x5.toNat : Int) ≤ 122))) || ((decide (0 < (i2 : Int))) && ((((decide (48 ≤ (x5.toNat : Int))) && (decide ((x5.toNat : Int) ≤ 57))) || (decide ((x5.toNat : Int) = 45))) || (decide ((x5.toNat : Int) = 95))))) then (some (.inr false)) else (some (.inl ()))
noncomputable def kit_IsKey_E1 (s1 : Bs) : Option (Bool) :=
  some ((decide (s1 ≠ [])) && (decide ((s1.length : Int) ≤ 40)))
noncomputable def m_kit_IsKey (s1 : Bs) : Option (Bool) :=
  if s1.length ≤ 1000000000 then forL (fun (k : Nat) (x : UInt8) (s : Unit) => kit_IsKey_L1 k x) (fun (s : Unit) => kit_IsKey_E1 s1) 0 s1 () else none
noncomputable def m_kit_Outside (n1 : Int) (low2 : Int) (high3 : Int) : Option (Bool) :=
  some ((decide (n1 < low2)) || (decide (high3 < n1)))
noncomputable def upstream_CheckInstances_J2 (x6 : S_api_Instance) (v17 : Bool) : Option (Unit ⊕ (Int)) :=
  if v17 then (some (.inr 7)) else ((m_kit_Outside x6.Weight 1 100).bind fun (r19 : (Bool)) => if r19 then (some (.inr 1)) else (some (.inl ())))
noncomputable def upstream_CheckInstances_L1 (l1 : (List S_api_Instance)) (k3 : Nat) (x6 : S_api_Instance) : Option (Unit ⊕ (Int)) :=
  (m_kit_IsKey x6.Key).bind fun (r9 : (Bool)) => if !r9 then (some (.inr 5)) else (if decide (0 < (k3 : Int)) then ((at? l1 ((k3 : Int) - 1)).bind fun (x14 : S_api_Instance) => upstream_CheckInstances_J2 x6 (Op.bytesLess x6.Key x14.Key || x6.Key == x14.Key)) else (upstream_CheckInstances_J2 x6 false))
noncomputable def upstream_CheckInstances_E1 : Option (Int) :=
  some 0
noncomputable def m_upstream_CheckInstances (l1 : (List S_api_Instance)) : Option (Int) :=
  if decide (50 < (l1.length : Int)) then some 2 else (if l1.length ≤ 1000000000 then forL (fun (k : Nat) (x : S_api_Instance) (s : Unit) => upstream_CheckInstances_L1 l1 k x) (fun (s : Unit) => upstream_CheckInstances_E1) 0 l1 () else none)
noncomputable def upstream_outliersFault_J1 (v17 : Bool) : Option (Int) :=
  if v17 then some 1 else some 0
noncomputable def m_upstream_outliersFault (o1 : S_api_Outliers) : Option (Int) :=
  (m_kit_Outside o1.Fails 1 100).bind fun (r2 : (Bool)) => if r2 then (upstream_outliersFault_J1 true) else ((m_kit_Outside o1.Base 1 o1.Most).bind fun (r6 : (Bool)) => if r6 then (upstream_outliersFault_J1 true) else (if decide (3600000 < o1.Most) then (upstream_outliersFault_J1 true) else ((m_kit_Outside o1.Share 0 1000).bind fun (r12 : (Bool)) => upstream_outliersFault_J1 r12)))
noncomputable def m_kit_IsMoment (n1 : Int) : Option (Bool) :=
  some ((decide (0 ≤ n1)) && (decide (n1 < 345686400000)))
noncomputable def slices_BinarySearchFunc_L_api_Instance_api_Instance_string__J3 (i12 : Int) (v20 : Bool) : Option (Int × Bool) :=
  some (i12, v20)
noncomputable def slices_BinarySearchFunc_L_api_Instance_api_Instance_string__J1 (x1 : (List S_api_Instance)) (target2 : Bs) (p2 : S_api_Instance → Bs → Option (Int)) (i12 : Int) : Option (Int × Bool) :=
  if decide (i12 < (x1.length : Int)) then ((at? x1 i12).bind fun (x15 : S_api_Instance) => (p2 x15 target2).bind fun (r17 : Int) => slices_BinarySearchFunc_L_api_Instance_api_Instance_string__J3 i12 (decide (r17 = 0))) else (slices_BinarySearchFunc_L_api_Instance_api_Instance_string__J3 i12 false)
noncomputable def slices_BinarySearchFunc_L_api_Instance_api_Instance_string__L2 (x1 : (List S_api_Instance)) (target2 : Bs) (p2 : S_api_Instance → Bs → Option (Int)) (i3 : Int) (j4 : Int) : Option ((Int × Int) ⊕ (Int × Bool)) :=
  if decide (i3 < j4) then ((at? x1 (IntKind.wrap .i64 (shr_ .u64 (IntKind.wrap .u64 (wr (i3 + j4))) 1))).bind fun (x7 : S_api_Instance) => (p2 x7 target2).bind fun (r9 : Int) => if decide (r9 < 0) then (some (.inl (wr ((IntKind.wrap .i64 (shr_ .u64 (IntKind.wrap .u64 (wr (i3 + j4))) 1)) + 1), j4))) else (some (.inl (i3, IntKind.wrap .i64 (shr_ .u64 (IntKind.wrap .u64 (wr (i3 + j4))) 1))))) else (Option.map .inr (slices_BinarySearchFunc_L_api_Instance_api_Instance_string__J1 x1 target2 p2 i3))
noncomputable def m_slices_BinarySearchFunc_L_api_Instance_api_Instance_string_ (x1 : (List S_api_Instance)) (target2 : Bs) (p2 : S_api_Instance → Bs → Option (Int)) : Option (Int × Bool) :=
  iter (fun (s : Int × Int) => slices_BinarySearchFunc_L_api_Instance_api_Instance_string__L2 x1 target2 p2 s.1 s.2) (0, (x1.length : Int))
noncomputable def m_upstream_place_1 (x1 : S_api_Instance) (k2 : Bs) : Option (Int) :=
  (m_strings_Compare x1.Key k2).bind fun (r3 : (Int)) => some r3
noncomputable def m_upstream_place (l1 : (List S_api_Instance)) (key2 : Bs) : Option (Int × Bool) :=
  (m_slices_BinarySearchFunc_L_api_Instance_api_Instance_string_ l1 key2 (fun (a0 : S_api_Instance) (a1 : Bs) => m_upstream_place_1 a0 a1)).bind fun (r3 : (Int × Bool)) => some (r3.1, r3.2)
noncomputable def upstream_CheckResults_J3 (v31 : Bool) : Option (Unit ⊕ (Int)) :=
  if v31 then (some (.inr 7)) else (some (.inl ()))
noncomputable def upstream_CheckResults_J2 (r2 : (List S_api_Result)) (k7 : Nat) (x10 : S_api_Result) (v24 : Bool) : Option (Unit ⊕ (Int)) :=
  if v24 then (some (.inr 1)) else (if decide (0 < (k7 : Int)) then ((at? r2 ((k7 : Int) - 1)).bind fun (x28 : S_api_Result) => upstream_CheckResults_J3 (decide (x10.At < x28.At))) else (upstream_CheckResults_J3 false))
noncomputable def upstream_CheckResults_L1 (l1 : (List S_api_Instance)) (r2 : (List S_api_Result)) (k7 : Nat) (x10 : S_api_Result) : Option (Unit ⊕ (Int)) :=
  (m_kit_IsMoment x10.At).bind fun (r13 : (Bool)) => if !r13 then (some (.inr 1)) else ((m_upstream_place l1 x10.Instance).bind fun (r16 : (Int × Bool)) => if !r16.2 then (some (.inr 8)) else (if decide (x10.Status ≠ 0) then ((m_kit_Outside x10.Status 100 599).bind fun (r21 : (Bool)) => upstream_CheckResults_J2 r2 k7 x10 r21) else (upstream_CheckResults_J2 r2 k7 x10 false)))
noncomputable def upstream_CheckResults_E1 : Option (Int) :=
  some 0
noncomputable def m_upstream_CheckResults (l1 : (List S_api_Instance)) (r2 : (List S_api_Result)) : Option (Int) :=
  (m_upstream_CheckInstances l1).bind fun (r3 : (Int)) => if decide (r3 ≠ 0) then some r3 else (if decide (2000 < (r2.length : Int)) then some 2 else (if r2.length ≤ 1000000000 then forL (fun (k : Nat) (x : S_api_Result) (s : Unit) => upstream_CheckResults_L1 l1 r2 k x) (fun (s : Unit) => upstream_CheckResults_E1) 0 r2 () else none))
noncomputable def m_upstream_standings_isOut (s1 : S_upstream_standings) (i2 : Int) (v3 : Int) : Option (Bool) :=
  (at? s1.list_ i2).bind fun (x4 : S_upstream_standing) => some (decide (v3 < x4.until_))
noncomputable def m_upstream_fails (status1 : Int) : Option (Bool) :=
  some ((decide (status1 = 0)) || (decide (500 ≤ status1)))
noncomputable def upstream_doubled_J1 (most3 : Int) (n10 : Int) : Option (Int) :=
  some (min n10 most3)
noncomputable def upstream_doubled_L2 (most3 : Int) (k5 : Nat) (n4 : Int) : Option (Int ⊕ (Int)) :=
  if decide (most3 ≤ n4) then (Option.map .inr (upstream_doubled_J1 most3 n4)) else (some (.inl (wr (n4 * 2))))
noncomputable def upstream_doubled_E2 (most3 : Int) (n4 : Int) : Option (Int) :=
  upstream_doubled_J1 most3 n4
noncomputable def m_upstream_doubled (n1 : Int) (times2 : Int) (most3 : Int) : Option (Int) :=
  if times2 ≤ 1000000000 then rng (fun (k : Nat) (s : Int) => upstream_doubled_L2 most3 k s) (fun (s : Int) => upstream_doubled_E2 most3 s) times2.toNat 0 n1 else none
noncomputable def upstream_standings_told_J2 (v25 : Int) : Option (Int ⊕ (S_upstream_standings)) :=
  some (.inl v25)
noncomputable def upstream_standings_told_L1 (s1 : S_upstream_standings) (v2 : Int) (v3 : Int) (x8 : S_upstream_standing) (k15 : Nat) (v14 : Int) : Option (Int ⊕ (S_upstream_standings)) :=
  (m_upstream_standings_isOut (S_upstream_standings.mk s1.o_ ((s1.list_.set v2.toNat (S_upstream_standing.mk (wr (x8.row_ + 1)) x8.until_ x8.times_)).set v2.toNat (S_upstream_standing.mk 0 x8.until_ x8.times_))) (k15 : Int) v3).bind fun (r22 : (Bool)) => if r22 then (upstream_standings_told_J2 (wr (v14 + 1))) else (upstream_standings_told_J2 v14)
noncomputable def upstream_standings_told_E1 (s1 : S_upstream_standings) (v2 : Int) (v3 : Int) (x8 : S_upstream_standing) (v14 : Int) : Option (S_upstream_standings) :=
  if decide ((wr (v14 * 1000)) ≤ (wr (s1.o_.Share * (((s1.list_.set v2.toNat (S_upstream_standing.mk (wr (x8.row_ + 1)) x8.until_ x8.times_)).set v2.toNat (S_upstream_standing.mk 0 x8.until_ x8.times_)).length : Int)))) then ((m_upstream_doubled s1.o_.Base x8.times_ s1.o_.Most).bind fun (r19 : (Int)) => some (S_upstream_standings.mk s1.o_ ((((s1.list_.set v2.toNat (S_upstream_standing.mk (wr (x8.row_ + 1)) x8.until_ x8.times_)).set v2.toNat (S_upstream_standing.mk 0 x8.until_ x8.times_)).set v2.toNat (S_upstream_standing.mk 0 (wr (v3 + r19)) x8.times_)).set v2.toNat (S_upstream_standing.mk 0 (wr (v3 + r19)) (wr (x8.times_ + 1)))))) else (some (S_upstream_standings.mk s1.o_ ((s1.list_.set v2.toNat (S_upstream_standing.mk (wr (x8.row_ + 1)) x8.until_ x8.times_)).set v2.toNat (S_upstream_standing.mk 0 x8.until_ x8.times_))))
noncomputable def m_upstream_standings_told (s1 : S_upstream_standings) (v2 : Int) (v3 : Int) (v4 : Int) : Option (S_upstream_standings) :=
  (m_upstream_standings_isOut s1 v2 v3).bind fun (r5 : (Bool)) => if r5 then some s1 else ((at? s1.list_ v2).bind fun (x8 : S_upstream_standing) => (m_upstream_fails v4).bind fun (r10 : (Bool)) => if !r10 then (some (S_upstream_standings.mk s1.o_ (s1.list_.set v2.toNat (S_upstream_standing.mk 0 x8.until_ x8.times_)))) else (if decide ((wr (x8.row_ + 1)) < s1.o_.Fails) then (some (S_upstream_standings.mk s1.o_ (s1.list_.set v2.toNat (S_upstream_standing.mk (wr (x8.row_ + 1)) x8.until_ x8.times_)))) else (if ((s1.list_.set v2.toNat (S_upstream_standing.mk (wr (x8.row_ + 1)) x8.until_ x8.times_)).set v2.toNat (S_upstream_standing.mk 0 x8.until_ x8.times_)).length ≤ 1000000000 then rng (fun (k : Nat) (s : Int) => upstream_standings_told_L1 s1 v2 v3 x8 k s) (fun (s : Int) => upstream_standings_told_E1 s1 v2 v3 x8 s) (((s1.list_.set v2.toNat (S_upstream_standing.mk (wr (x8.row_ + 1)) x8.until_ x8.times_)).set v2.toNat (S_upstream_standing.mk 0 x8.until_ x8.times_)).length) 0 1 else none)))
noncomputable def upstream_Out_J3 (v38 : (List Bs)) : Option ((List Bs) ⊕ ((List Bs) × Int)) :=
  some (.inl v38)
noncomputable def upstream_Out_L2 (v4 : Int) (l18 : (List S_upstream_standing)) (c19 : Int) (c20 : Int) (c21 : Int) (c22 : Int) (k28 : Nat) (x31 : S_api_Instance) (l27 : (List Bs)) : Option ((List Bs) ⊕ ((List Bs) × Int)) :=
  (m_upstream_standings_isOut (S_upstream_standings.mk (S_api_Outliers.mk c19 c20 c21 c22) l18) (k28 : Int) v4).bind fun (r34 : (Bool)) => if r34 then (if l27.length + 1 ≤ 1000000000 then (upstream_Out_J3 (l27 ++ [x31.Key])) else none) else (upstream_Out_J3 l27)
noncomputable def upstream_Out_E2 (l27 : (List Bs)) : Option ((List Bs) × Int) :=
  some (l27, 0)
noncomputable def upstream_Out_J4 (l46 : (List S_upstream_standing)) (c47 : Int) (c48 : Int) (c49 : Int) (c50 : Int) : Option (((List S_upstream_standing) × Int × Int × Int × Int) ⊕ ((List Bs) × Int)) :=
  some (.inl (l46, c47, c48, c49, c50))
noncomputable def upstream_Out_L1 (v1 : (List S_api_Instance)) (v4 : Int) (k23 : Nat) (x26 : S_api_Result) (l18 : (List S_upstream_standing)) (c19 : Int) (c20 : Int) (c21 : Int) (c22 : Int) : Option (((List S_upstream_standing) × Int × Int × Int × Int) ⊕ ((List Bs) × Int)) :=
  if decide (x26.At ≤ v4) then ((m_upstream_place v1 x26.Instance).bind fun (r42 : (Int × Bool)) => (m_upstream_standings_told (S_upstream_standings.mk (S_api_Outliers.mk c19 c20 c21 c22) l18) r42.1 x26.At x26.Status).bind fun (r44 : (S_upstream_standings)) => upstream_Out_J4 r44.list_ r44.o_.Fails r44.o_.Base r44.o_.Most r44.o_.Share) else (upstream_Out_J4 l18 c19 c20 c21 c22)
noncomputable def upstream_Out_E1 (v1 : (List S_api_Instance)) (v4 : Int) (l18 : (List S_upstream_standing)) (c19 : Int) (c20 : Int) (c21 : Int) (c22 : Int) : Option ((List Bs) × Int) :=
  if v1.length ≤ 1000000000 then forL (fun (k : Nat) (x : S_api_Instance) (s : (List Bs)) => upstream_Out_L2 v4 l18 c19 c20 c21 c22 k x s) (fun (s : (List Bs)) => upstream_Out_E2 s) 0 v1 [] else none
noncomputable def m_upstream_Out (v1 : (List S_api_Instance)) (v2 : S_api_Outliers) (v3 : (List S_api_Result)) (v4 : Int) : Option ((List Bs) × Int) :=
  (m_upstream_CheckInstances v1).bind fun (r5 : (Int)) => if decide (r5 ≠ 0) then (some ([], r5)) else ((m_upstream_outliersFault v2).bind fun (r8 : (Int)) => if decide (r8 ≠ 0) then (some ([], r8)) else ((m_upstream_CheckResults v1 v3).bind fun (r11 : (Int)) => if decide (r11 ≠ 0) then (some ([], r11)) else ((m_kit_IsMoment v4).bind fun (r14 : (Bool)) => if !r14 then (some ([], 1)) else (if v1.length ≤ 1000000000 then (if v3.length ≤ 1000000000 then forL (fun (k : Nat) (x : S_api_Result) (s : (List S_upstream_standing) × Int × Int × Int × Int) => upstream_Out_L1 v1 v4 k x s.1 s.2.1 s.2.2.1 s.2.2.2.1 s.2.2.2.2) (fun (s : (List S_upstream_standing) × Int × Int × Int × Int) => upstream_Out_E1 v1 v4 s.1 s.2.1 s.2.2.1 s.2.2.2.1 s.2.2.2.2) 0 v3 ((List.replicate v1.length (S_upstream_standing.mk 0 0 0)), v2.Fails, v2.Base, v2.Most, v2.Share) else none) else none))))
noncomputable def m_gateref2_in (n1 : Int) (low2 : Int) (high3 : Int) : Option (Bool) :=
  some ((decide (low2 ≤ n1)) && (decide (n1 ≤ high3)))
noncomputable def gateref2_only_L1 (some2 : Bs) (k3 : Nat) (x6 : UInt8) : Option (Unit ⊕ (Bool)) :=
  (m_strings_IndexByte some2 (x6.toNat : Int)).bind fun (r9 : (Int)) => if decide (r9 < 0) then (some (.inr false)) else (some (.inl ()))
noncomputable def gateref2_only_E1 : Option (Bool) :=
  some true
noncomputable def m_gateref2_only (s1 : Bs) (some2 : Bs) : Option (Bool) :=
  if s1.length ≤ 1000000000 then forL (fun (k : Nat) (x : UInt8) (s : Unit) => gateref2_only_L1 some2 k x) (fun (s : Unit) => gateref2_only_E1) 0 s1 () else none
noncomputable def gateref2_Key_J1 (v16 : Bool) : Option (Bool) :=
  some v16
noncomputable def m_gateref2_Key (s1 : Bs) : Option (Bool) :=
  (m_gateref2_in (s1.length : Int) 1 40).bind fun (r2 : (Bool)) => if r2 then ((sub? s1 0 1).bind fun (l6 : Bs) => (m_gateref2_only l6 [97, 98, 99, 100, 101, 102, 103, 104, 105, 106, 107, 108, 109, 110, 111, 112, 113, 114, 115, 116, 117, 118, 119, 120, 121, 122]).bind fun (r8 : (Bool)) => if r8 then ((m_gateref2_only s1 [97, 98, 99, 100, 101, 102, 103, 104, 105, 106, 107, 108, 109, 110, 111, 112, 113, 114, 115, 116, 117, 118, 119, 120, 121, 122, 48, 49, 50, 51, 52, 53, 54, 55, 56, 57, 45, 95]).bind fun (r12 : (Bool)) => gateref2_Key_J1 r12) else (gateref2_Key_J1 false)) else (gateref2_Key_J1 false)
noncomputable def gateref2_InstancesFault_L1 (k4 : Nat) (x7 : S_api_Instance) (last3 : Bs) : Option (Bs ⊕ (Int)) :=
  (m_gateref2_Key x7.Key).bind fun (r10 : (Bool)) => if !r10 then (some (.inr 5)) else (if (Op.bytesLess x7.Key last3 || x7.Key == last3) then (some (.inr 7)) else ((m_gateref2_in x7.Weight 1 100).bind fun (r14 : (Bool)) => if !r14 then (some (.inr 1)) else (some (.inl x7.Key))))
noncomputable def gateref2_InstancesFault_E1 (last3 : Bs) : Option (Int) :=
  some 0
noncomputable def m_gateref2_InstancesFault (l1 : (List S_api_Instance)) : Option (Int) :=
  if decide (50 < (l1.length : Int)) then some 2 else (if l1.length ≤ 1000000000 then forL (fun (k : Nat) (x : S_api_Instance) (s : Bs) => gateref2_InstancesFault_L1 k x s) (fun (s : Bs) => gateref2_InstancesFault_E1 s) 0 l1 [] else none)
noncomputable def m_gateref2_Moment (v1 : Int) : Option (Bool) :=
  (m_gateref2_in v1 0 345686399999).bind fun (r2 : (Bool)) => some r2
noncomputable def slices_IndexFunc_L_api_Instance_api_Instance__L1 (p1 : S_api_Instance → Option (Bool)) (k2 : Nat) (x5 : S_api_Instance) : Option (Unit ⊕ (Int)) :=
  (p1 x5).bind fun (r8 : Bool) => if r8 then (some (.inr (k2 : Int))) else (some (.inl ()))
noncomputable def slices_IndexFunc_L_api_Instance_api_Instance__E1 : Option (Int) :=
  some (-1)
noncomputable def m_slices_IndexFunc_L_api_Instance_api_Instance_ (s1 : (List S_api_Instance)) (p1 : S_api_Instance → Option (Bool)) : Option (Int) :=
  if s1.length ≤ 1000000000 then forL (fun (k : Nat) (x : S_api_Instance) (s : Unit) => slices_IndexFunc_L_api_Instance_api_Instance__L1 p1 k x) (fun (s : Unit) => slices_IndexFunc_L_api_Instance_api_Instance__E1) 0 s1 () else none
noncomputable def m_gateref2_InstanceAt_1 (x1 : S_api_Instance) (c2 : Bs) : Option (Bool) :=
  some (decide (x1.Key = c2))
noncomputable def m_gateref2_InstanceAt (l1 : (List S_api_Instance)) (key2 : Bs) : Option (Int) :=
  (m_slices_IndexFunc_L_api_Instance_api_Instance_ l1 (fun (a0 : S_api_Instance) => m_gateref2_InstanceAt_1 a0 key2)).bind fun (r3 : (Int)) => some r3
noncomputable def gateref2_ResultsFault_J3 (v28 : Bool) : Option (Unit ⊕ (Int)) :=
  if v28 then (some (.inr 7)) else (some (.inl ()))
noncomputable def gateref2_ResultsFault_J2 (r2 : (List S_api_Result)) (k4 : Nat) (x7 : S_api_Result) (v21 : Bool) : Option (Unit ⊕ (Int)) :=
  if v21 then (some (.inr 1)) else (if decide (0 < (k4 : Int)) then ((at? r2 ((k4 : Int) - 1)).bind fun (x25 : S_api_Result) => gateref2_ResultsFault_J3 (decide (x7.At < x25.At))) else (gateref2_ResultsFault_J3 false))
noncomputable def gateref2_ResultsFault_L1 (l1 : (List S_api_Instance)) (r2 : (List S_api_Result)) (k4 : Nat) (x7 : S_api_Result) : Option (Unit ⊕ (Int)) :=
  (m_gateref2_Moment x7.At).bind fun (r10 : (Bool)) => if !r10 then (some (.inr 1)) else ((m_gateref2_InstanceAt l1 x7.Instance).bind fun (r13 : (Int)) => if decide (r13 < 0) then (some (.inr 8)) else (if decide (x7.Status ≠ 0) then ((m_gateref2_in x7.Status 100 599).bind fun (r18 : (Bool)) => gateref2_ResultsFault_J2 r2 k4 x7 (!r18)) else (gateref2_ResultsFault_J2 r2 k4 x7 false)))
noncomputable def gateref2_ResultsFault_E1 : Option (Int) :=
  some 0
noncomputable def m_gateref2_ResultsFault (l1 : (List S_api_Instance)) (r2 : (List S_api_Result)) : Option (Int) :=
  if decide (2000 < (r2.length : Int)) then some 2 else (if r2.length ≤ 1000000000 then forL (fun (k : Nat) (x : S_api_Result) (s : Unit) => gateref2_ResultsFault_L1 l1 r2 k x) (fun (s : Unit) => gateref2_ResultsFault_E1) 0 r2 () else none)
noncomputable def gatelaw2_errs_L1 (k2 : Nat) (x5 : Int) : Option (Unit ⊕ (Int)) :=
  if decide (x5 ≠ 0) then (some (.inr x5)) else (some (.inl ()))
noncomputable def gatelaw2_errs_E1 : Option (Int) :=
  some 0
noncomputable def m_gatelaw2_errs (l1 : (List Int)) : Option (Int) :=
  if l1.length ≤ 1000000000 then forL (fun (k : Nat) (x : Int) (s : Unit) => gatelaw2_errs_L1 k x) (fun (s : Unit) => gatelaw2_errs_E1) 0 l1 () else none
noncomputable def gateref2_OutliersFault_J1 (v17 : Bool) : Option (Int) :=
  if v17 then some 1 else some 0
noncomputable def m_gateref2_OutliersFault (o1 : S_api_Outliers) : Option (Int) :=
  (m_gateref2_in o1.Fails 1 100).bind fun (r2 : (Bool)) => if !r2 then (gateref2_OutliersFault_J1 true) else ((m_gateref2_in o1.Base 1 o1.Most).bind fun (r6 : (Bool)) => if !r6 then (gateref2_OutliersFault_J1 true) else (if decide (3600000 < o1.Most) then (gateref2_OutliersFault_J1 true) else ((m_gateref2_in o1.Share 0 1000).bind fun (r12 : (Bool)) => gateref2_OutliersFault_J1 (!r12))))
noncomputable def m_gatelaw2_when (is1 : Bool) (e2 : Int) : Option (Int) :=
  if is1 then some e2 else some 0
noncomputable def m_gatelaw2_momentFault (v1 : Int) : Option (Int) :=
  (m_gateref2_Moment v1).bind fun (r2 : (Bool)) => (m_gatelaw2_when (!r2) 1).bind fun (r4 : (Int)) => some r4
noncomputable def m_gateref2_newBench (l1 : (List S_api_Instance)) (o2 : S_api_Outliers) : Option (S_gateref2_bench) :=
  some (S_gateref2_bench.mk l1 o2 (0, (fun _ => 0)) (0, (fun _ => 0)) (0, (fun _ => 0)))
noncomputable def gateref2_bench_out_J2 (out13 : (List Bs)) : Option ((List Bs) ⊕ ((List Bs))) :=
  some (.inl out13)
noncomputable def gateref2_bench_out_L1 (s1 : S_gateref2_bench) (v2 : Int) (k4 : Nat) (x7 : S_api_Instance) (l3 : (List Bs)) : Option ((List Bs) ⊕ ((List Bs))) :=
  if x7.Key.length ≤ 1000000000 then (if decide (v2 < (s1.until_.2 x7.Key)) then (if l3.length + 1 ≤ 1000000000 then (gateref2_bench_out_J2 (l3 ++ [x7.Key])) else none) else (gateref2_bench_out_J2 l3)) else none
noncomputable def gateref2_bench_out_E1 (l3 : (List Bs)) : Option ((List Bs)) :=
  some l3
noncomputable def m_gateref2_bench_out (s1 : S_gateref2_bench) (v2 : Int) : Option ((List Bs)) :=
  if s1.l_.length ≤ 1000000000 then forL (fun (k : Nat) (x : S_api_Instance) (s : (List Bs)) => gateref2_bench_out_L1 s1 v2 k x s) (fun (s : (List Bs)) => gateref2_bench_out_E1 s) 0 s1.l_ [] else none
noncomputable def m_gateref2_fails (status1 : Int) : Option (Bool) :=
  some ((decide (status1 = 0)) || (decide (500 ≤ status1)))
noncomputable def gateref2_bench_take_L1 (s1 : S_gateref2_bench) (k19 : Nat) (v18 : Int) : Option (Int ⊕ (S_gateref2_bench)) :=
  some (.inl (min (wr (2 * v18)) s1.o_.Most))
noncomputable def gateref2_bench_take_E1 (s1 : S_gateref2_bench) (v2 : S_api_Result) (v18 : Int) : Option (S_gateref2_bench) :=
  if v2.Instance.length ≤ 1000000000 then (if v2.Instance.length ≤ 1000000000 ∧ s1.times_.1 < 1000000 ∧ -9223372036854775808 ≤ wr ((s1.times_.2 v2.Instance) + 1) ∧ wr ((s1.times_.2 v2.Instance) + 1) ≤ 9223372036854775807 then (if v2.Instance.length ≤ 1000000000 ∧ s1.until_.1 < 1000000 ∧ -9223372036854775808 ≤ wr (v2.At + v18) ∧ wr (v2.At + v18) ≤ 9223372036854775807 then (some (S_gateref2_bench.mk s1.l_ s1.o_ (((s1.row_.1 + 1) + 1), (upm (upm s1.row_.2 v2.Instance (wr ((s1.row_.2 v2.Instance) + 1))) v2.Instance 0)) ((s1.times_.1 + 1), (upm s1.times_.2 v2.Instance (wr ((s1.times_.2 v2.Instance) + 1)))) ((s1.until_.1 + 1), (upm s1.until_.2 v2.Instance (wr (v2.At + v18)))))) else none) else none) else none
noncomputable def m_gateref2_bench_take (s1 : S_gateref2_bench) (v2 : S_api_Result) : Option (S_gateref2_bench) :=
  if v2.Instance.length ≤ 1000000000 then (if decide (v2.At < (s1.until_.2 v2.Instance)) then (some (S_gateref2_bench.mk s1.l_ s1.o_ (s1.row_.1, s1.row_.2) (s1.times_.1, s1.times_.2) (s1.until_.1, s1.until_.2))) else ((m_gateref2_fails v2.Status).bind fun (r5 : (Bool)) => if !r5 then (if v2.Instance.length ≤ 1000000000 ∧ s1.row_.1 < 1000000 ∧ -9223372036854775808 ≤ (0 : Int) ∧ (0 : Int) ≤ 9223372036854775807 then (some (S_gateref2_bench.mk s1.l_ s1.o_ ((s1.row_.1 + 1), (upm s1.row_.2 v2.Instance 0)) (s1.times_.1, s1.times_.2) (s1.until_.1, s1.until_.2))) else none) else (if v2.Instance.length ≤ 1000000000 then (if v2.Instance.length ≤ 1000000000 ∧ s1.row_.1 < 1000000 ∧ -9223372036854775808 ≤ wr ((s1.row_.2 v2.Instance) + 1) ∧ wr ((s1.row_.2 v2.Instance) + 1) ≤ 9223372036854775807 then (if v2.Instance.length ≤ 1000000000 then (if decide (((upm s1.row_.2 v2.Instance (wr ((s1.row_.2 v2.Instance) + 1))) v2.Instance) < s1.o_.Fails) then (some (S_gateref2_bench.mk s1.l_ s1.o_ ((s1.row_.1 + 1), (upm s1.row_.2 v2.Instance (wr ((s1.row_.2 v2.Instance) + 1)))) (s1.times_.1, s1.times_.2) (s1.until_.1, s1.until_.2))) else (if v2.Instance.length ≤ 1000000000 ∧ (s1.row_.1 + 1) < 1000000 ∧ -9223372036854775808 ≤ (0 : Int) ∧ (0 : Int) ≤ 9223372036854775807 then ((m_gateref2_bench_out (S_gateref2_bench.mk s1.l_ s1.o_ (((s1.row_.1 + 1) + 1), (upm (upm s1.row_.2 v2.Instance (wr ((s1.row_.2 v2.Instance) + 1))) v2.Instance 0)) (s1.times_.1, s1.times_.2) (s1.until_.1, s1.until_.2)) v2.At).bind fun (r14 : ((List Bs))) => if decide ((wr (s1.o_.Share * (s1.l_.length : Int))) < (wr ((wr ((r14.length : Int) + 1)) * 1000))) then (some (S_gateref2_bench.mk s1.l_ s1.o_ (((s1.row_.1 + 1) + 1), (upm (upm s1.row_.2 v2.Instance (wr ((s1.row_.2 v2.Instance) + 1))) v2.Instance 0)) (s1.times_.1, s1.times_.2) (s1.until_.1, s1.until_.2))) else (if v2.Instance.length ≤ 1000000000 then (if (s1.times_.2 v2.Instance) ≤ 1000000000 then rng (fun (k : Nat) (s : Int) => gateref2_bench_take_L1 s1 k s) (fun (s : Int) => gateref2_bench_take_E1 s1 v2 s) ((s1.times_.2 v2.Instance).toNat) 0 s1.o_.Base else none) else none)) else none)) else none) else none) else none))) else none
noncomputable def gateref2_OutOf_J2 (c29 : (List S_api_Instance)) (c30 : Int) (c31 : Int) (c32 : Int) (c33 : Int) (m34 : (Bs → Int)) (m35 : Nat) (m36 : (Bs → Int)) (m37 : Nat) (m38 : (Bs → Int)) (m39 : Nat) : Option (((List S_api_Instance) × Int × Int × Int × Int × (Bs → Int) × Nat × (Bs → Int) × Nat × (Bs → Int) × Nat) ⊕ ((List Bs))) :=
  some (.inl (c29, c30, c31, c32, c33, m38, m39, m36, m37, m34, m35))
noncomputable def gateref2_OutOf_L1 (v4 : Int) (k18 : Nat) (x21 : S_api_Result) (c7 : (List S_api_Instance)) (c8 : Int) (c9 : Int) (c10 : Int) (c11 : Int) (m12 : (Bs → Int)) (m13 : Nat) (m14 : (Bs → Int)) (m15 : Nat) (m16 : (Bs → Int)) (m17 : Nat) : Option (((List S_api_Instance) × Int × Int × Int × Int × (Bs → Int) × Nat × (Bs → Int) × Nat × (Bs → Int) × Nat) ⊕ ((List Bs))) :=
  if decide (x21.At ≤ v4) then ((m_gateref2_bench_take (S_gateref2_bench.mk c7 (S_api_Outliers.mk c8 c9 c10 c11) (m13, m12) (m15, m14) (m17, m16)) x21).bind fun (r27 : (S_gateref2_bench)) => gateref2_OutOf_J2 r27.l_ r27.o_.Fails r27.o_.Base r27.o_.Most r27.o_.Share r27.until_.2 r27.until_.1 r27.times_.2 r27.times_.1 r27.row_.2 r27.row_.1) else (gateref2_OutOf_J2 c7 c8 c9 c10 c11 m16 m17 m14 m15 m12 m13)
noncomputable def gateref2_OutOf_E1 (v4 : Int) (c7 : (List S_api_Instance)) (c8 : Int) (c9 : Int) (c10 : Int) (c11 : Int) (m12 : (Bs → Int)) (m13 : Nat) (m14 : (Bs → Int)) (m15 : Nat) (m16 : (Bs → Int)) (m17 : Nat) : Option ((List Bs)) :=
  (m_gateref2_bench_out (S_gateref2_bench.mk c7 (S_api_Outliers.mk c8 c9 c10 c11) (m13, m12) (m15, m14) (m17, m16)) v4).bind fun (r22 : ((List Bs))) => some r22
noncomputable def m_gateref2_OutOf (l1 : (List S_api_Instance)) (o2 : S_api_Outliers) (r3 : (List S_api_Result)) (v4 : Int) : Option ((List Bs)) :=
  (m_gateref2_newBench l1 o2).bind fun (r5 : (S_gateref2_bench)) => if r3.length ≤ 1000000000 then forL (fun (k : Nat) (x : S_api_Result) (s : (List S_api_Instance) × Int × Int × Int × Int × (Bs → Int) × Nat × (Bs → Int) × Nat × (Bs → Int) × Nat) => gateref2_OutOf_L1 v4 k x s.1 s.2.1 s.2.2.1 s.2.2.2.1 s.2.2.2.2.1 s.2.2.2.2.2.1 s.2.2.2.2.2.2.1 s.2.2.2.2.2.2.2.1 s.2.2.2.2.2.2.2.2.1 s.2.2.2.2.2.2.2.2.2.1 s.2.2.2.2.2.2.2.2.2.2) (fun (s : (List S_api_Instance) × Int × Int × Int × Int × (Bs → Int) × Nat × (Bs → Int) × Nat × (Bs → Int) × Nat) => gateref2_OutOf_E1 v4 s.1 s.2.1 s.2.2.1 s.2.2.2.1 s.2.2.2.2.1 s.2.2.2.2.2.1 s.2.2.2.2.2.2.1 s.2.2.2.2.2.2.2.1 s.2.2.2.2.2.2.2.2.1 s.2.2.2.2.2.2.2.2.2.1 s.2.2.2.2.2.2.2.2.2.2) 0 r3 (r5.l_, r5.o_.Fails, r5.o_.Base, r5.o_.Most, r5.o_.Share, r5.row_.2, r5.row_.1, r5.times_.2, r5.times_.1, r5.until_.2, r5.until_.1) else none
noncomputable def slices_Equal_L_string_string__L1 (s2 : (List Bs)) (k4 : Nat) (x7 : Bs) : Option (Unit ⊕ (Bool)) :=
  (s2[k4]?).bind fun (x10 : Bs) => if decide (x7 ≠ x10) then (some (.inr false)) else (some (.inl ()))
noncomputable def slices_Equal_L_string_string__E1 : Option (Bool) :=
  some true
noncomputable def m_slices_Equal_L_string_string_ (s1 : (List Bs)) (s2 : (List Bs)) : Option (Bool) :=
  if decide ((s1.length : Int) ≠ (s2.length : Int)) then some false else (if s1.length ≤ 1000000000 then forL (fun (k : Nat) (x : Bs) (s : Unit) => slices_Equal_L_string_string__L1 s2 k x) (fun (s : Unit) => slices_Equal_L_string_string__E1) 0 s1 () else none)
noncomputable def upstream_weights_L1 (k3 : Nat) (x6 : S_api_Instance) (sum2 : Int) : Option (Int ⊕ (Int)) :=
  some (.inl (wr (sum2 + x6.Weight)))
noncomputable def upstream_weights_E1 (sum2 : Int) : Option (Int) :=
  some sum2
noncomputable def m_upstream_weights (l1 : (List S_api_Instance)) : Option (Int) :=
  if l1.length ≤ 1000000000 then forL (fun (k : Nat) (x : S_api_Instance) (s : Int) => upstream_weights_L1 k x s) (fun (s : Int) => upstream_weights_E1 s) 0 l1 0 else none
noncomputable def upstream_Round_J3 (v39 : Int) (v40 : (List Int)) : Option ((Int × (List Int)) ⊕ (((List Int) × (List Bs)) ⊕ ((List Bs) × Int))) :=
  some (.inl (v39, v40))
noncomputable def upstream_Round_L2 (k21 : Nat) (x24 : S_api_Instance) (v19 : Int) (l20 : (List Int)) : Option ((Int × (List Int)) ⊕ (((List Int) × (List Bs)) ⊕ ((List Bs) × Int))) :=
  (l20[k21]?).bind fun (x32 : Int) => ((l20.set k21 (wr (x32 + x24.Weight)))[k21]?).bind fun (x34 : Int) => (at? (l20.set k21 (wr (x32 + x24.Weight))) v19).bind fun (x36 : Int) => if decide (x36 < x34) then (upstream_Round_J3 (k21 : Int) (l20.set k21 (wr (x32 + x24.Weight)))) else (upstream_Round_J3 v19 (l20.set k21 (wr (x32 + x24.Weight))))
noncomputable def upstream_Round_E2 (v1 : (List S_api_Instance)) (r11 : (Int)) (l14 : (List Bs)) (v19 : Int) (l20 : (List Int)) : Option (((List Int) × (List Bs)) ⊕ ((List Bs) × Int)) :=
  (at? l20 v19).bind fun (x25 : Int) => (at? v1 v19).bind fun (x27 : S_api_Instance) => if l14.length + 1 ≤ 1000000000 then (some (.inl ((l20.set v19.toNat (wr (x25 - r11))), (l14 ++ [x27.Key])))) else none
noncomputable def upstream_Round_L1 (v1 : (List S_api_Instance)) (r11 : (Int)) (k15 : Nat) (l13 : (List Int)) (l14 : (List Bs)) : Option (((List Int) × (List Bs)) ⊕ ((List Bs) × Int)) :=
  if v1.length ≤ 1000000000 then forL (fun (k : Nat) (x : S_api_Instance) (s : Int × (List Int)) => upstream_Round_L2 k x s.1 s.2) (fun (s : Int × (List Int)) => upstream_Round_E2 v1 r11 l14 s.1 s.2) 0 v1 (0, l13) else none
noncomputable def upstream_Round_E1 (l13 : (List Int)) (l14 : (List Bs)) : Option ((List Bs) × Int) :=
  some (l14, 0)
noncomputable def m_upstream_Round (v1 : (List S_api_Instance)) (v2 : Int) : Option ((List Bs) × Int) :=
  (m_upstream_CheckInstances v1).bind fun (r3 : (Int)) => if decide (r3 ≠ 0) then (some ([], r3)) else ((m_kit_Outside v2 0 2000).bind fun (r6 : (Bool)) => if r6 then (some ([], 1)) else (if decide ((v1.length : Int) = 0) then (some ([], 8)) else (if v1.length ≤ 1000000000 then ((m_upstream_weights v1).bind fun (r11 : (Int)) => if v2 ≤ 1000000000 then rng (fun (k : Nat) (s : (List Int) × (List Bs)) => upstream_Round_L1 v1 r11 k s.1 s.2) (fun (s : (List Int) × (List Bs)) => upstream_Round_E1 s.1 s.2) v2.toNat 0 ((List.replicate v1.length 0), []) else none) else none)))
noncomputable def gatelaw2_balanced_J1 (v8 : Bool) : Option (Bool) :=
  some v8
noncomputable def m_gatelaw2_balanced  : Option (Bool) :=
  (m_upstream_Round ([(S_api_Instance.mk [97] 1), (S_api_Instance.mk [98] 2)]) 3).bind fun (r1 : ((List Bs) × Int)) => if decide (r1.2 = 0) then ((m_slices_Equal_L_string_string_ r1.1 ([[98], [97], [98]])).bind fun (r5 : (Bool)) => gatelaw2_balanced_J1 r5) else (gatelaw2_balanced_J1 false)
noncomputable def gatelaw2_OutliersOut_J3 (v47 : Bool) : Option (Bool) :=
  some v47
noncomputable def gatelaw2_OutliersOut_J2 (r10 : ((List Bs) × Int)) (v32 : Int) (v36 : (List Bs)) : Option (Bool) :=
  if decide (r10.2 = v32) then ((m_slices_Equal_L_string_string_ r10.1 v36).bind fun (r39 : (Bool)) => if r39 then ((m_gatelaw2_balanced ).bind fun (r43 : (Bool)) => gatelaw2_OutliersOut_J3 r43) else (gatelaw2_OutliersOut_J3 false)) else (gatelaw2_OutliersOut_J3 false)
noncomputable def gatelaw2_OutliersOut_J1 (r2 : ((List S_api_Instance) × S_gatemake_Stream)) (r4 : (S_api_Outliers × S_gatemake_Stream)) (r6 : (Int × S_gatemake_Stream)) (r8 : ((List S_api_Result) × S_gatemake_Stream)) (r10 : ((List Bs) × Int)) (v32 : Int) : Option (Bool) :=
  if decide (v32 = 0) then ((m_gateref2_OutOf r2.1 r4.1 r8.1 r6.1).bind fun (r34 : ((List Bs))) => gatelaw2_OutliersOut_J2 r10 v32 r34) else (gatelaw2_OutliersOut_J2 r10 v32 [])
noncomputable def m_gatelaw2_OutliersOut (v1 : (List Int)) : Option (Bool) :=
  (m_gatemake_Stream_Instances (S_gatemake_Stream.mk v1 0)).bind fun (r2 : ((List S_api_Instance) × S_gatemake_Stream)) => (m_gatemake_Stream_Outliers r2.2).bind fun (r4 : (S_api_Outliers × S_gatemake_Stream)) => (m_gatemake_Stream_Pick r4.2 [0, 5, 20, 50, 100, (-1)]).bind fun (r6 : (Int × S_gatemake_Stream)) => (m_gatemake_Stream_Results r6.2 r2.1).bind fun (r8 : ((List S_api_Result) × S_gatemake_Stream)) => (m_upstream_Out r2.1 r4.1 r8.1 r6.1).bind fun (r10 : ((List Bs) × Int)) => (m_gateref2_InstancesFault r2.1).bind fun (r12 : (Int)) => (m_upstream_CheckResults r2.1 r8.1).bind fun (r14 : (Int)) => (m_gateref2_ResultsFault r2.1 r8.1).bind fun (r16 : (Int)) => (m_gatelaw2_errs [r12, r16]).bind fun (r18 : (Int)) => if decide (r14 ≠ r18) then some false else ((m_gateref2_OutliersFault r4.1).bind fun (r21 : (Int)) => (m_gatelaw2_errs [r12, r21]).bind fun (r23 : (Int)) => if decide (r23 = 0) then ((m_gateref2_ResultsFault r2.1 r8.1).bind fun (r26 : (Int)) => (m_gatelaw2_momentFault r6.1).bind fun (r28 : (Int)) => (m_gatelaw2_errs [r26, r28]).bind fun (r30 : (Int)) => gatelaw2_OutliersOut_J1 r2 r4 r6 r8 r10 r30) else (gatelaw2_OutliersOut_J1 r2 r4 r6 r8 r10 r23))
end Go.Proofs.Ytecnjgefohnkpaa
