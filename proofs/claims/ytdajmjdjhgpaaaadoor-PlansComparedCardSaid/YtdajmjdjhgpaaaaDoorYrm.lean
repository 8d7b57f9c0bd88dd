/- Plain models of functions. Printed by a program. -/
import Derived.Test.YtdajmjdjhgpaaaaDoorMc
import Derived.Test.YtdajmjdjhgpaaaaDoorRng
namespace Go.Proofs.YtdajmjdjhgpaaaaDoor
set_option linter.unusedVariables false
set_option maxRecDepth 20000
structure S_gatemake_Stream where
  L : (List Int)
  at_ : Int
structure S_api_Product where
  Key : Bs
  Scopes : (List Bs)
structure S_api_Tier where
  From : Int
  Cents : Int
structure S_api_Plan where
  Key : Bs
  Product : Bs
  Base : Int
  Free : Int
  Tiers : (List S_api_Tier)
  Limit : Int
  Trial : Int
  Asked : Bool
structure S_api_Catalog where
  Products : (List S_api_Product)
  Plans : (List S_api_Plan)
noncomputable def gatemake_Below_J1 (x6 : Int) : Option (Int) :=
  some x6
noncomputable def m_gatemake_Below (x1 : Int) (n2 : Int) : Option (Int) :=
  if decide (n2 < 1) then some 0 else (if n2 ≠ 0 then (if decide ((Int.tmod x1 n2) < 0) then (gatemake_Below_J1 (wr ((Int.tmod x1 n2) + n2))) else (gatemake_Below_J1 (Int.tmod x1 n2))) else none)
noncomputable def m_gatemake_Stream_Next (s1 : S_gatemake_Stream) (n2 : Int) : Option (Int × S_gatemake_Stream) :=
  if decide ((s1.L.length : Int) = 0) then ((m_gatemake_Below (wr ((wr (s1.at_ + 1)) * 7919)) n2).bind fun (r4 : (Int)) => some (r4, (S_gatemake_Stream.mk s1.L (wr (s1.at_ + 1))))) else (if (s1.L.length : Int) ≠ 0 then (if ((0 : Int) ≤ (wr ((wr (s1.at_ + 1)) - 1)) ∧ (wr ((wr (s1.at_ + 1)) - 1)) ≤ 9223372036854775807) ∧ (0 : Int) < (s1.L.length : Int) then ((at? s1.L (Int.tmod (wr ((wr (s1.at_ + 1)) - 1)) (s1.L.length : Int))).bind fun (x8 : Int) => (m_gatemake_Below x8 1073741824).bind fun (r10 : (Int)) => (m_gatemake_Below (wr (r10 + (wr (((wr ((wr (s1.at_ + 1)) - 1)) / (s1.L.length : Int)) * (wr (7919 + (Int.tmod (wr ((wr (s1.at_ + 1)) - 1)) (s1.L.length : Int)))))))) n2).bind fun (r12 : (Int)) => some (r12, (S_gatemake_Stream.mk s1.L (wr (s1.at_ + 1))))) else none) else none)
noncomputable def m_gatemake_Stream_Flip (s1 : S_gatemake_Stream) (n2 : Int) : Option (Bool × S_gatemake_Stream) :=
  (m_gatemake_Stream_Next s1 n2).bind fun (r3 : (Int × S_gatemake_Stream)) => some (decide (r3.1 = 0), r3.2)
noncomputable def m_gatemake_Stream_Some (s1 : S_gatemake_Stream) (l2 : (List Bs)) : Option (Bs × S_gatemake_Stream) :=
  (m_gatemake_Stream_Next s1 (l2.length : Int)).bind fun (r3 : (Int × S_gatemake_Stream)) => (at? l2 r3.1).bind fun (x5 : Bs) => some (x5, r3.2)
noncomputable def m_gatemake_Stream_Pick (s1 : S_gatemake_Stream) (l2 : (List Int)) : Option (Int × S_gatemake_Stream) :=
  (m_gatemake_Stream_Next s1 (l2.length : Int)).bind fun (r3 : (Int × S_gatemake_Stream)) => (at? l2 r3.1).bind fun (x5 : Int) => some (x5, r3.2)
noncomputable def m_gatemake_Stream_Range (s1 : S_gatemake_Stream) (low2 : Int) (high3 : Int) : Option (Int × S_gatemake_Stream) :=
  if decide (high3 < low2) then (some (low2, s1)) else ((m_gatemake_Stream_Next s1 (wr ((wr (high3 - low2)) + 1))).bind fun (r5 : (Int × S_gatemake_Stream)) => some (wr (low2 + r5.1), r5.2))
noncomputable def m_gatemake_Stream_Odd (s1 : S_gatemake_Stream) (low2 : Int) (high3 : Int) : Option (Int × S_gatemake_Stream) :=
  (m_gatemake_Stream_Flip s1 12).bind fun (r4 : (Bool × S_gatemake_Stream)) => if r4.1 then ((m_gatemake_Stream_Pick r4.2 [wr (low2 - 1), wr (high3 + 1), low2, high3, (-1099511627776), 1099511627776]).bind fun (r7 : (Int × S_gatemake_Stream)) => some (r7.1, r7.2)) else ((m_gatemake_Stream_Range r4.2 low2 high3).bind fun (r9 : (Int × S_gatemake_Stream)) => some (r9.1, r9.2))
noncomputable def gatemake_Stream_RightScopes_L1 (k7 : Nat) (c4 : (List Int)) (c5 : Int) (l6 : (List Bs)) : Option (((List Int) × Int × (List Bs)) ⊕ ((List Bs) × S_gatemake_Stream)) :=
  (m_gatemake_Stream_Some (S_gatemake_Stream.mk c4 c5) ([[97], [97, 58, 42], [97, 58, 98], [97, 58, 98, 58, 42], [97, 58, 98, 58, 99], [98], [98, 58, 42], [98, 58, 99], [42]])).bind fun (r11 : (Bs × S_gatemake_Stream)) => if l6.length + 1 ≤ 1000000000 then (some (.inl (r11.2.L, r11.2.at_, (l6 ++ [r11.1])))) else none
noncomputable def gatemake_Stream_RightScopes_E1 (c4 : (List Int)) (c5 : Int) (l6 : (List Bs)) : Option ((List Bs) × S_gatemake_Stream) :=
  some (l6, (S_gatemake_Stream.mk c4 c5))
noncomputable def m_gatemake_Stream_RightScopes (s1 : S_gatemake_Stream) : Option ((List Bs) × S_gatemake_Stream) :=
  (m_gatemake_Stream_Range s1 0 4).bind fun (r2 : (Int × S_gatemake_Stream)) => if r2.1 ≤ 1000000000 then rng (fun (k : Nat) (s : (List Int) × Int × (List Bs)) => gatemake_Stream_RightScopes_L1 k s.1 s.2.1 s.2.2) (fun (s : (List Int) × Int × (List Bs)) => gatemake_Stream_RightScopes_E1 s.1 s.2.1 s.2.2) r2.1.toNat 0 (r2.2.L, r2.2.at_, []) else none
noncomputable def m_gatemake_Stream_Scope (s1 : S_gatemake_Stream) : Option (Bs × S_gatemake_Stream) :=
  (m_gatemake_Stream_Flip s1 25).bind fun (r2 : (Bool × S_gatemake_Stream)) => if r2.1 then ((m_strings_Repeat [97, 58] 10).bind fun (r5 : (Bs)) => if r5.length + [97].length ≤ 1000000000 then ((m_gatemake_Stream_Some r2.2 ([[], [97, 58, 42, 58, 98], [65], [97, 58, 58, 98], [97, 58], [42, 42], [97, 42], (r5 ++ [97])])).bind fun (r8 : (Bs × S_gatemake_Stream)) => some (r8.1, r8.2)) else none) else ((m_gatemake_Stream_Some r2.2 ([[42], [97], [97, 58, 42], [97, 58, 98], [97, 58, 98, 58, 42], [97, 58, 98, 58, 99], [98], [98, 58, 42], [98, 58, 99], [99]])).bind fun (r10 : (Bs × S_gatemake_Stream)) => some (r10.1, r10.2))
noncomputable def gatemake_Stream_Scopes_J2 (out17 : (List Bs)) (c18 : (List Int)) (c19 : Int) : Option ((List Bs) × S_gatemake_Stream) :=
  some (out17, (S_gatemake_Stream.mk c18 c19))
noncomputable def gatemake_Stream_Scopes_J1 (out10 : (List Bs)) (c11 : (List Int)) (c12 : Int) : Option ((List Bs) × S_gatemake_Stream) :=
  (m_gatemake_Stream_Flip (S_gatemake_Stream.mk c11 c12) 60).bind fun (r13 : (Bool × S_gatemake_Stream)) => if r13.1 then (if 51 ≤ 1000000000 then (gatemake_Stream_Scopes_J2 (List.replicate 51 []) r13.2.L r13.2.at_) else none) else (gatemake_Stream_Scopes_J2 out10 r13.2.L r13.2.at_)
noncomputable def m_gatemake_Stream_Scopes (s1 : S_gatemake_Stream) : Option ((List Bs) × S_gatemake_Stream) :=
  (m_gatemake_Stream_RightScopes s1).bind fun (r2 : ((List Bs) × S_gatemake_Stream)) => (m_gatemake_Stream_Flip r2.2 6).bind fun (r4 : (Bool × S_gatemake_Stream)) => if r4.1 then ((m_gatemake_Stream_Scope r4.2).bind fun (r7 : (Bs × S_gatemake_Stream)) => if r2.1.length + 1 ≤ 1000000000 then (gatemake_Stream_Scopes_J1 (r2.1 ++ [r7.1]) r7.2.L r7.2.at_) else none) else (gatemake_Stream_Scopes_J1 r2.1 r4.2.L r4.2.at_)
noncomputable def gatemake_Stream_RightCatalog_L3 (k34 : Nat) (v30 : Int) (l31 : (List S_api_Tier)) (c32 : (List Int)) (c33 : Int) : Option ((Int × (List S_api_Tier) × (List Int) × Int) ⊕ (((List S_api_Plan) × (List Int) × Int) ⊕ (S_api_Catalog × S_gatemake_Stream))) :=
  (m_gatemake_Stream_Pick (S_gatemake_Stream.mk c32 c33) [0, 100, 500, 1500]).bind fun (r39 : (Int × S_gatemake_Stream)) => if l31.length + 1 ≤ 1000000000 then ((m_gatemake_Stream_Pick r39.2 [1, 9, 100]).bind fun (r42 : (Int × S_gatemake_Stream)) => some (.inl (wr (v30 + r42.1), (l31 ++ [(S_api_Tier.mk v30 r39.1)]), r42.2.L, r42.2.at_))) else none
noncomputable def gatemake_Stream_RightCatalog_J2 (c44 : (List Int)) (c45 : Int) (l46 : (List S_api_Plan)) : Option (((List S_api_Plan) × (List Int) × Int) ⊕ (S_api_Catalog × S_gatemake_Stream)) :=
  some (.inl (l46, c44, c45))
noncomputable def gatemake_Stream_RightCatalog_E3 (l4 : (List S_api_Plan)) (x10 : Bs) (r16 : (Bs × S_gatemake_Stream)) (r18 : (Int × S_gatemake_Stream)) (r20 : (Int × S_gatemake_Stream)) (r22 : (Int × S_gatemake_Stream)) (r24 : (Int × S_gatemake_Stream)) (r26 : (Bool × S_gatemake_Stream)) (v30 : Int) (l31 : (List S_api_Tier)) (c32 : (List Int)) (c33 : Int) : Option (((List S_api_Plan) × (List Int) × Int) ⊕ (S_api_Catalog × S_gatemake_Stream)) :=
  if l4.length + 1 ≤ 1000000000 then (gatemake_Stream_RightCatalog_J2 c32 c33 (l4 ++ [(S_api_Plan.mk x10 r16.1 r18.1 r20.1 l31 r22.1 r24.1 r26.1)])) else none
noncomputable def gatemake_Stream_RightCatalog_L1 (k7 : Nat) (x10 : Bs) (l4 : (List S_api_Plan)) (c5 : (List Int)) (c6 : Int) : Option (((List S_api_Plan) × (List Int) × Int) ⊕ (S_api_Catalog × S_gatemake_Stream)) :=
  (m_gatemake_Stream_Flip (S_gatemake_Stream.mk c5 c6) 5).bind fun (r13 : (Bool × S_gatemake_Stream)) => if r13.1 then (gatemake_Stream_RightCatalog_J2 r13.2.L r13.2.at_ l4) else ((m_gatemake_Stream_Some r13.2 ([[115, 104, 111, 112], [115, 104, 111, 112], [109, 97, 112, 115]])).bind fun (r16 : (Bs × S_gatemake_Stream)) => (m_gatemake_Stream_Pick r16.2 [0, 0, 1000, 3000, 31]).bind fun (r18 : (Int × S_gatemake_Stream)) => (m_gatemake_Stream_Pick r18.2 [0, 10, 100]).bind fun (r20 : (Int × S_gatemake_Stream)) => (m_gatemake_Stream_Pick r20.2 [(-1), (-1), 0, 1000]).bind fun (r22 : (Int × S_gatemake_Stream)) => (m_gatemake_Stream_Pick r22.2 [0, 0, 1, 2]).bind fun (r24 : (Int × S_gatemake_Stream)) => (m_gatemake_Stream_Flip r24.2 2).bind fun (r26 : (Bool × S_gatemake_Stream)) => (m_gatemake_Stream_Pick r26.2 [0, 1, 2, 3]).bind fun (r28 : (Int × S_gatemake_Stream)) => if r28.1 ≤ 1000000000 then rng (fun (k : Nat) (s : Int × (List S_api_Tier) × (List Int) × Int) => gatemake_Stream_RightCatalog_L3 k s.1 s.2.1 s.2.2.1 s.2.2.2) (fun (s : Int × (List S_api_Tier) × (List Int) × Int) => gatemake_Stream_RightCatalog_E3 l4 x10 r16 r18 r20 r22 r24 r26 s.1 s.2.1 s.2.2.1 s.2.2.2) r28.1.toNat 0 (1, ([] : List S_api_Tier), r28.2.L, r28.2.at_) else none)
noncomputable def gatemake_Stream_RightCatalog_E1 (r2 : ((List Bs) × S_gatemake_Stream)) (l4 : (List S_api_Plan)) (c5 : (List Int)) (c6 : Int) : Option (S_api_Catalog × S_gatemake_Stream) :=
  some ((S_api_Catalog.mk ([(S_api_Product.mk [109, 97, 112, 115] r2.1), (S_api_Product.mk [115, 104, 111, 112] ([[111, 114, 100, 101, 114, 115]]))]) l4), (S_gatemake_Stream.mk c5 c6))
noncomputable def m_gatemake_Stream_RightCatalog (s1 : S_gatemake_Stream) : Option (S_api_Catalog × S_gatemake_Stream) :=
  (m_gatemake_Stream_RightScopes s1).bind fun (r2 : ((List Bs) × S_gatemake_Stream)) => if ([[98, 105, 103], [102, 114, 101, 101], [109, 105, 100], [115, 109, 97, 108, 108]]).length ≤ 1000000000 then forL (fun (k : Nat) (x : Bs) (s : (List S_api_Plan) × (List Int) × Int) => gatemake_Stream_RightCatalog_L1 k x s.1 s.2.1 s.2.2) (fun (s : (List S_api_Plan) × (List Int) × Int) => gatemake_Stream_RightCatalog_E1 r2 s.1 s.2.1 s.2.2) 0 ([[98, 105, 103], [102, 114, 101, 101], [109, 105, 100], [115, 109, 97, 108, 108]]) (([] : List S_api_Plan), r2.2.L, r2.2.at_) else none
noncomputable def gatemake_Stream_Catalog_P (c : S_api_Catalog) (s : S_gatemake_Stream) : Option (S_api_Catalog × S_gatemake_Stream) :=
  (m_gatemake_Stream_Next s (c.Plans.length : Int)).bind fun (r13 : (Int × S_gatemake_Stream)) => (at? c.Plans r13.1).bind fun (x15 : S_api_Plan) => (m_gatemake_Stream_Next r13.2 6).bind fun (r17 : (Int × S_gatemake_Stream)) => if decide (r17.1 = 0) then ((m_gatemake_Stream_Some r17.2 ([[], [65], [98, 105, 103]])).bind fun (r20 : (Bs × S_gatemake_Stream)) => some ((S_api_Catalog.mk c.Products (c.Plans.set r13.1.toNat (S_api_Plan.mk r20.1 x15.Product x15.Base x15.Free x15.Tiers x15.Limit x15.Trial x15.Asked))), r20.2)) else (if decide (r17.1 = 1) then ((m_gatemake_Stream_Some r17.2 ([[110, 111, 110, 101], []])).bind fun (r20 : (Bs × S_gatemake_Stream)) => some ((S_api_Catalog.mk c.Products (c.Plans.set r13.1.toNat (S_api_Plan.mk x15.Key r20.1 x15.Base x15.Free x15.Tiers x15.Limit x15.Trial x15.Asked))), r20.2)) else (if decide (r17.1 = 2) then ((m_gatemake_Stream_Odd r17.2 0 1000).bind fun (r20 : (Int × S_gatemake_Stream)) => (m_gatemake_Stream_Odd r20.2 0 1000).bind fun (r22 : (Int × S_gatemake_Stream)) => some ((S_api_Catalog.mk c.Products (c.Plans.set r13.1.toNat (S_api_Plan.mk x15.Key x15.Product r20.1 r22.1 x15.Tiers x15.Limit x15.Trial x15.Asked))), r22.2)) else (if decide (r17.1 = 3) then ((m_gatemake_Stream_Odd r17.2 1 100).bind fun (r20 : (Int × S_gatemake_Stream)) => (m_gatemake_Stream_Odd r20.2 0 1000000).bind fun (r22 : (Int × S_gatemake_Stream)) => if x15.Tiers.length + 1 ≤ 1000000000 then some ((S_api_Catalog.mk c.Products (c.Plans.set r13.1.toNat (S_api_Plan.mk x15.Key x15.Product x15.Base x15.Free (x15.Tiers ++ [(S_api_Tier.mk r20.1 r22.1)]) x15.Limit x15.Trial x15.Asked))), r22.2) else none) else (if decide (r17.1 = 4) then ((m_gatemake_Stream_Odd r17.2 (-1) 100).bind fun (r20 : (Int × S_gatemake_Stream)) => (m_gatemake_Stream_Odd r20.2 0 132).bind fun (r22 : (Int × S_gatemake_Stream)) => some ((S_api_Catalog.mk c.Products (c.Plans.set r13.1.toNat (S_api_Plan.mk x15.Key x15.Product x15.Base x15.Free x15.Tiers r20.1 r22.1 x15.Asked))), r22.2)) else ((m_gatemake_Stream_Some r17.2 ([[122, 122], [115, 104, 111, 112], []])).bind fun (r20 : (Bs × S_gatemake_Stream)) => (m_gatemake_Stream_Scopes r20.2).bind fun (r22 : ((List Bs) × S_gatemake_Stream)) => if c.Products.length + 1 ≤ 1000000000 then some ((S_api_Catalog.mk (c.Products ++ [(S_api_Product.mk r20.1 r22.1)]) c.Plans), r22.2) else none)))))
noncomputable def m_gatemake_Stream_Catalog (s1 : S_gatemake_Stream) : Option (S_api_Catalog × S_gatemake_Stream) :=
  (m_gatemake_Stream_RightCatalog s1).bind fun (r2 : (S_api_Catalog × S_gatemake_Stream)) => if decide ((r2.1.Plans.length : Int) > 0) then ((m_gatemake_Stream_Flip r2.2 12).bind fun (r6 : (Bool × S_gatemake_Stream)) => if r6.1 then gatemake_Stream_Catalog_P r2.1 r6.2 else some (r2.1, r6.2)) else some (r2.1, r2.2)
noncomputable def kit_IsKey_L1 (i2 : Nat) (x5 : UInt8) : Option (Unit ⊕ (Bool)) :=
  if !(((decide (97 ≤ (x5.toNat : Int))) && (decide ((x5.toNat : Int) ≤ 122))) || ((decide (0 < (i2 : Int))) && ((((decide (48 ≤ (x5.toNat : Int))) && (decide ((x5.toNat : Int) ≤ 57))) || (decide ((x5.toNat : Int) = 45))) || (decide ((x5.toNat : Int) = 95))))) then (some (.inr false)) else (some (.inl ()))
noncomputable def kit_IsKey_E1 (s1 : Bs) : Option (Bool) :=
  some ((decide (s1 ≠ [])) && (decide ((s1.length : Int) ≤ 40)))
noncomputable def m_kit_IsKey (s1 : Bs) : Option (Bool) :=
  if s1.length ≤ 1000000000 then forL (fun (k : Nat) (x : UInt8) (s : Unit) => kit_IsKey_L1 k x) (fun (s : Unit) => kit_IsKey_E1 s1) 0 s1 () else none
noncomputable def token_isScope_L1 (r2 : ((List Bs))) (k4 : Nat) (x7 : Bs) : Option (Unit ⊕ (Bool)) :=
  (m_kit_IsKey x7).bind fun (r10 : (Bool)) => if ((!r10) && (!((decide (x7 = [42])) && (decide ((k4 : Int) = (wr ((r2.length : Int) - 1))))))) then (some (.inr false)) else (some (.inl ()))
noncomputable def token_isScope_E1 (r2 : ((List Bs))) : Option (Bool) :=
  some (decide ((r2.length : Int) ≤ 10))
noncomputable def m_token_isScope (s1 : Bs) : Option (Bool) :=
  (m_strings_Split s1 [58]).bind fun (r2 : ((List Bs))) => if r2.length ≤ 1000000000 then forL (fun (k : Nat) (x : Bs) (s : Unit) => token_isScope_L1 r2 k x) (fun (s : Unit) => token_isScope_E1 r2) 0 r2 () else none
noncomputable def token_CheckScopes_L1 (k3 : Nat) (x6 : Bs) : Option (Unit ⊕ (Int)) :=
  (m_token_isScope x6).bind fun (r9 : (Bool)) => if !r9 then (some (.inr 3)) else (some (.inl ()))
noncomputable def token_CheckScopes_E1 : Option (Int) :=
  some 0
noncomputable def m_token_CheckScopes (l1 : (List Bs)) : Option (Int) :=
  if decide (50 < (l1.length : Int)) then some 2 else (if l1.length ≤ 1000000000 then forL (fun (k : Nat) (x : Bs) (s : Unit) => token_CheckScopes_L1 k x) (fun (s : Unit) => token_CheckScopes_E1) 0 l1 () else none)
noncomputable def portal_productsFault_J2 (x6 : S_api_Product) (v17 : Bool) : Option (Unit ⊕ (Int)) :=
  if v17 then (some (.inr 7)) else ((m_token_CheckScopes x6.Scopes).bind fun (r19 : (Int)) => if decide (r19 ≠ 0) then (some (.inr r19)) else (some (.inl ())))
noncomputable def portal_productsFault_L1 (l1 : (List S_api_Product)) (k3 : Nat) (x6 : S_api_Product) : Option (Unit ⊕ (Int)) :=
  (m_kit_IsKey x6.Key).bind fun (r9 : (Bool)) => if !r9 then (some (.inr 5)) else (if decide (0 < (k3 : Int)) then ((at? l1 ((k3 : Int) - 1)).bind fun (x14 : S_api_Product) => portal_productsFault_J2 x6 (Op.bytesLess x6.Key x14.Key || x6.Key == x14.Key)) else (portal_productsFault_J2 x6 false))
noncomputable def portal_productsFault_E1 : Option (Int) :=
  some 0
noncomputable def m_portal_productsFault (l1 : (List S_api_Product)) : Option (Int) :=
  if decide (100 < (l1.length : Int)) then some 2 else (if l1.length ≤ 1000000000 then forL (fun (k : Nat) (x : S_api_Product) (s : Unit) => portal_productsFault_L1 l1 k x) (fun (s : Unit) => portal_productsFault_E1) 0 l1 () else none)
noncomputable def slices_BinarySearchFunc_L_api_Product_api_Product_string__J3 (i12 : Int) (v20 : Bool) : Option (Int × Bool) :=
  some (i12, v20)
noncomputable def slices_BinarySearchFunc_L_api_Product_api_Product_string__J1 (x1 : (List S_api_Product)) (target2 : Bs) (p2 : S_api_Product → Bs → Option (Int)) (i12 : Int) : Option (Int × Bool) :=
  if decide (i12 < (x1.length : Int)) then ((at? x1 i12).bind fun (x15 : S_api_Product) => (p2 x15 target2).bind fun (r17 : Int) => slices_BinarySearchFunc_L_api_Product_api_Product_string__J3 i12 (decide (r17 = 0))) else (slices_BinarySearchFunc_L_api_Product_api_Product_string__J3 i12 false)
noncomputable def slices_BinarySearchFunc_L_api_Product_api_Product_string__L2 (x1 : (List S_api_Product)) (target2 : Bs) (p2 : S_api_Product → Bs → Option (Int)) (i3 : Int) (j4 : Int) : Option ((Int × Int) ⊕ (Int × Bool)) :=
  if decide (i3 < j4) then ((at? x1 (IntKind.wrap .i64 (shr_ .u64 (IntKind.wrap .u64 (wr (i3 + j4))) 1))).bind fun (x7 : S_api_Product) => (p2 x7 target2).bind fun (r9 : Int) => if decide (r9 < 0) then (some (.inl (wr ((IntKind.wrap .i64 (shr_ .u64 (IntKind.wrap .u64 (wr (i3 + j4))) 1)) + 1), j4))) else (some (.inl (i3, IntKind.wrap .i64 (shr_ .u64 (IntKind.wrap .u64 (wr (i3 + j4))) 1))))) else (Option.map .inr (slices_BinarySearchFunc_L_api_Product_api_Product_string__J1 x1 target2 p2 i3))
noncomputable def m_slices_BinarySearchFunc_L_api_Product_api_Product_string_ (x1 : (List S_api_Product)) (target2 : Bs) (p2 : S_api_Product → Bs → Option (Int)) : Option (Int × Bool) :=
  iter (fun (s : Int × Int) => slices_BinarySearchFunc_L_api_Product_api_Product_string__L2 x1 target2 p2 s.1 s.2) (0, (x1.length : Int))
noncomputable def m_portal_productAt_1 (p1 : S_api_Product) (k2 : Bs) : Option (Int) :=
  (m_strings_Compare p1.Key k2).bind fun (r3 : (Int)) => some r3
noncomputable def m_portal_productAt (c1 : S_api_Catalog) (key2 : Bs) : Option (Int × Bool) :=
  (m_slices_BinarySearchFunc_L_api_Product_api_Product_string_ c1.Products key2 (fun (a0 : S_api_Product) (a1 : Bs) => m_portal_productAt_1 a0 a1)).bind fun (r3 : (Int × Bool)) => some (r3.1, r3.2)
noncomputable def m_kit_Outside (n1 : Int) (low2 : Int) (high3 : Int) : Option (Bool) :=
  some ((decide (n1 < low2)) || (decide (high3 < n1)))
noncomputable def portal_tiersFault_J2 (v12 : Bool) : Option (Int) :=
  if v12 then some 3 else some 0
noncomputable def portal_tiersFault_J4 (v30 : Bool) : Option (Unit ⊕ (Int)) :=
  if v30 then (some (.inr 7)) else (some (.inl ()))
noncomputable def portal_tiersFault_J3 (l1 : (List S_api_Tier)) (k3 : Nat) (x6 : S_api_Tier) (v23 : Bool) : Option (Unit ⊕ (Int)) :=
  if v23 then (some (.inr 1)) else (if decide (0 < (k3 : Int)) then ((at? l1 ((k3 : Int) - 1)).bind fun (x27 : S_api_Tier) => portal_tiersFault_J4 (decide (x6.From ≤ x27.From))) else (portal_tiersFault_J4 false))
noncomputable def portal_tiersFault_L1 (l1 : (List S_api_Tier)) (k3 : Nat) (x6 : S_api_Tier) : Option (Unit ⊕ (Int)) :=
  (m_kit_Outside x6.From 1 1000000000000).bind fun (r16 : (Bool)) => if r16 then (portal_tiersFault_J3 l1 k3 x6 true) else ((m_kit_Outside x6.Cents 0 1000000).bind fun (r20 : (Bool)) => portal_tiersFault_J3 l1 k3 x6 r20)
noncomputable def portal_tiersFault_E1 (l1 : (List S_api_Tier)) : Option (Int) :=
  if decide (0 < (l1.length : Int)) then ((l1[0]?).bind fun (x9 : S_api_Tier) => portal_tiersFault_J2 (decide (x9.From ≠ 1))) else (portal_tiersFault_J2 false)
noncomputable def m_portal_tiersFault (l1 : (List S_api_Tier)) : Option (Int) :=
  if decide (20 < (l1.length : Int)) then some 2 else (if l1.length ≤ 1000000000 then forL (fun (k : Nat) (x : S_api_Tier) (s : Unit) => portal_tiersFault_L1 l1 k x) (fun (s : Unit) => portal_tiersFault_E1 l1) 0 l1 () else none)
noncomputable def portal_planFault_J3 (v37 : Bool) : Option (Int) :=
  if v37 then some 1 else some 0
noncomputable def portal_planFault_J2 (x3 : S_api_Plan) (v25 : Bool) : Option (Int) :=
  if v25 then some 1 else ((m_portal_tiersFault x3.Tiers).bind fun (r27 : (Int)) => if decide (r27 ≠ 0) then some r27 else ((m_kit_Outside x3.Limit (-1) 1000000000000).bind fun (r30 : (Bool)) => if r30 then (portal_planFault_J3 true) else ((m_kit_Outside x3.Trial 0 132).bind fun (r34 : (Bool)) => portal_planFault_J3 r34)))
noncomputable def portal_planFault_J1 (v1 : S_api_Catalog) (x3 : S_api_Plan) (v13 : Bool) : Option (Int) :=
  if v13 then some 7 else ((m_portal_productAt v1 x3.Product).bind fun (r15 : (Int × Bool)) => if !r15.2 then some 8 else ((m_kit_Outside x3.Base 0 1000000000000).bind fun (r18 : (Bool)) => if r18 then (portal_planFault_J2 x3 true) else ((m_kit_Outside x3.Free 0 1000000000000).bind fun (r22 : (Bool)) => portal_planFault_J2 x3 r22)))
noncomputable def m_portal_planFault (v1 : S_api_Catalog) (v2 : Int) : Option (Int) :=
  (at? v1.Plans v2).bind fun (x3 : S_api_Plan) => (m_kit_IsKey x3.Key).bind fun (r5 : (Bool)) => if !r5 then some 5 else (if decide (0 < v2) then ((at? v1.Plans (wr (v2 - 1))).bind fun (x10 : S_api_Plan) => portal_planFault_J1 v1 x3 (Op.bytesLess x3.Key x10.Key || x3.Key == x10.Key)) else (portal_planFault_J1 v1 x3 false))
noncomputable def portal_CheckCatalog_L1 (c1 : S_api_Catalog) (k6 : Nat) (x9 : S_api_Plan) : Option (Unit ⊕ (Int)) :=
  (m_portal_planFault c1 (k6 : Int)).bind fun (r12 : (Int)) => if decide (r12 ≠ 0) then (some (.inr r12)) else (some (.inl ()))
noncomputable def portal_CheckCatalog_E1 : Option (Int) :=
  some 0
noncomputable def m_portal_CheckCatalog (c1 : S_api_Catalog) : Option (Int) :=
  (m_portal_productsFault c1.Products).bind fun (r2 : (Int)) => if decide (r2 ≠ 0) then some r2 else (if decide (100 < (c1.Plans.length : Int)) then some 2 else (if c1.Plans.length ≤ 1000000000 then forL (fun (k : Nat) (x : S_api_Plan) (s : Unit) => portal_CheckCatalog_L1 c1 k x) (fun (s : Unit) => portal_CheckCatalog_E1) 0 c1.Plans () else none))
noncomputable def slices_BinarySearchFunc_L_api_Plan_api_Plan_string__J3 (i12 : Int) (v20 : Bool) : Option (Int × Bool) :=
  some (i12, v20)
noncomputable def slices_BinarySearchFunc_L_api_Plan_api_Plan_string__J1 (x1 : (List S_api_Plan)) (target2 : Bs) (p2 : S_api_Plan → Bs → Option (Int)) (i12 : Int) : Option (Int × Bool) :=
  if decide (i12 < (x1.length : Int)) then ((at? x1 i12).bind fun (x15 : S_api_Plan) => (p2 x15 target2).bind fun (r17 : Int) => slices_BinarySearchFunc_L_api_Plan_api_Plan_string__J3 i12 (decide (r17 = 0))) else (slices_BinarySearchFunc_L_api_Plan_api_Plan_string__J3 i12 false)
noncomputable def slices_BinarySearchFunc_L_api_Plan_api_Plan_string__L2 (x1 : (List S_api_Plan)) (target2 : Bs) (p2 : S_api_Plan → Bs → Option (Int)) (i3 : Int) (j4 : Int) : Option ((Int × Int) ⊕ (Int × Bool)) :=
  if decide (i3 < j4) then ((at? x1 (IntKind.wrap .i64 (shr_ .u64 (IntKind.wrap .u64 (wr (i3 + j4))) 1))).bind fun (x7 : S_api_Plan) => (p2 x7 target2).bind fun (r9 : Int) => if decide (r9 < 0) then (some (.inl (wr ((IntKind.wrap .i64 (shr_ .u64 (IntKind.wrap .u64 (wr (i3 + j4))) 1)) + 1), j4))) else (some (.inl (i3, IntKind.wrap .i64 (shr_ .u64 (IntKind.wrap .u64 (wr (i3 + j4))) 1))))) else (Option.map .inr (slices_BinarySearchFunc_L_api_Plan_api_Plan_string__J1 x1 target2 p2 i3))
noncomputable def m_slices_BinarySearchFunc_L_api_Plan_api_Plan_string_ (x1 : (List S_api_Plan)) (target2 : Bs) (p2 : S_api_Plan → Bs → Option (Int)) : Option (Int × Bool) :=
  iter (fun (s : Int × Int) => slices_BinarySearchFunc_L_api_Plan_api_Plan_string__L2 x1 target2 p2 s.1 s.2) (0, (x1.length : Int))
noncomputable def m_portal_planOf_1 (p1 : S_api_Plan) (k2 : Bs) : Option (Int) :=
  (m_strings_Compare p1.Key k2).bind fun (r3 : (Int)) => some r3
noncomputable def m_portal_planOf (c1 : S_api_Catalog) (key2 : Bs) : Option (S_api_Plan × Bool) :=
  (m_slices_BinarySearchFunc_L_api_Plan_api_Plan_string_ c1.Plans key2 (fun (a0 : S_api_Plan) (a1 : Bs) => m_portal_planOf_1 a0 a1)).bind fun (r3 : (Int × Bool)) => if !r3.2 then (some ((S_api_Plan.mk [] [] 0 0 [] 0 0 false), false)) else ((at? c1.Plans r3.1).bind fun (x6 : S_api_Plan) => some (x6, true))
noncomputable def m_portal_PlanOf (c1 : S_api_Catalog) (key2 : Bs) : Option (S_api_Plan × Int) :=
  (m_portal_CheckCatalog c1).bind fun (r3 : (Int)) => if decide (r3 ≠ 0) then (some ((S_api_Plan.mk [] [] 0 0 [] 0 0 false), r3)) else ((m_portal_planOf c1 key2).bind fun (r6 : (S_api_Plan × Bool)) => if !r6.2 then (some ((S_api_Plan.mk [] [] 0 0 [] 0 0 false), 8)) else ((m_slices_Clone r6.1.Tiers).bind fun (r9 : ((List S_api_Tier))) => some ((S_api_Plan.mk r6.1.Key r6.1.Product r6.1.Base r6.1.Free r9 r6.1.Limit r6.1.Trial r6.1.Asked), 0)))
noncomputable def portal_price_J2 (sum3 : Int) (x7 : S_api_Tier) (to14 : Int) : Option (Int ⊕ (Int)) :=
  some (.inl (wr (sum3 + (wr ((max 0 (wr ((wr (to14 - x7.From)) + 1))) * x7.Cents)))))
noncomputable def portal_price_L1 (p1 : S_api_Plan) (calls2 : Int) (k4 : Nat) (x7 : S_api_Tier) (sum3 : Int) : Option (Int ⊕ (Int)) :=
  if decide (((k4 : Int) + 1) < (p1.Tiers.length : Int)) then ((p1.Tiers[(k4 + 1)]?).bind fun (x12 : S_api_Tier) => portal_price_J2 sum3 x7 (min (max 0 (wr (calls2 - p1.Free))) (wr (x12.From - 1)))) else (portal_price_J2 sum3 x7 (max 0 (wr (calls2 - p1.Free))))
noncomputable def portal_price_E1 (sum3 : Int) : Option (Int) :=
  if ((0 : Int) ≤ sum3 ∧ sum3 ≤ 9223372036854775807) ∧ (0 : Int) < 1000 then (some (sum3 / 1000)) else none
noncomputable def m_portal_price (p1 : S_api_Plan) (calls2 : Int) : Option (Int) :=
  if p1.Tiers.length ≤ 1000000000 then forL (fun (k : Nat) (x : S_api_Tier) (s : Int) => portal_price_L1 p1 calls2 k x s) (fun (s : Int) => portal_price_E1 s) 0 p1.Tiers 0 else none
noncomputable def m_portal_Price (c1 : S_api_Catalog) (plan2 : Bs) (calls3 : Int) : Option (Int × Int) :=
  (m_portal_CheckCatalog c1).bind fun (r4 : (Int)) => if decide (r4 ≠ 0) then (some (0, r4)) else ((m_portal_planOf c1 plan2).bind fun (r7 : (S_api_Plan × Bool)) => if !r7.2 then (some (0, 8)) else ((m_kit_Outside calls3 0 1000000000000).bind fun (r10 : (Bool)) => if r10 then (some (0, 1)) else ((m_portal_price r7.1 calls3).bind fun (r13 : (Int)) => some (r13, 0))))
noncomputable def m_gateref2_in (n1 : Int) (low2 : Int) (high3 : Int) : Option (Bool) :=
  some ((decide (low2 ≤ n1)) && (decide (n1 ≤ high3)))
noncomputable def gateref2_only_L1 (some2 : Bs) (k3 : Nat) (x6 : UInt8) : Option (Unit ⊕ (Bool)) :=
  (m_strings_IndexByte some2 (x6.toNat : Int)).bind fun (r9 : (Int)) => if decide (r9 < 0) then (some (.inr false)) else (some (.inl ()))
noncomputable def gateref2_only_E1 : Option (Bool) :=
  some true
noncomputable def m_gateref2_only (s1 : Bs) (some2 : Bs) : Option (Bool) :=
  if s1.length ≤ 1000000000 then forL (fun (k : Nat) (x : UInt8) (s : Unit) => gateref2_only_L1 some2 k x) (fun (s : Unit) => gateref2_only_E1) 0 s1 () else none
noncomputable def gateref2_Key_J1 (v16 : Bool) : Option (Bool) :=
  some v16
noncomputable def m_gateref2_Key (s1 : Bs) : Option (Bool) :=
  (m_gateref2_in (s1.length : Int) 1 40).bind fun (r2 : (Bool)) => if r2 then ((sub? s1 0 1).bind fun (l6 : Bs) => (m_gateref2_only l6 [97, 98, 99, 100, 101, 102, 103, 104, 105, 106, 107, 108, 109, 110, 111, 112, 113, 114, 115, 116, 117, 118, 119, 120, 121, 122]).bind fun (r8 : (Bool)) => if r8 then ((m_gateref2_only s1 [97, 98, 99, 100, 101, 102, 103, 104, 105, 106, 107, 108, 109, 110, 111, 112, 113, 114, 115, 116, 117, 118, 119, 120, 121, 122, 48, 49, 50, 51, 52, 53, 54, 55, 56, 57, 45, 95]).bind fun (r12 : (Bool)) => gateref2_Key_J1 r12) else (gateref2_Key_J1 false)) else (gateref2_Key_J1 false)
noncomputable def slices_IndexFunc_L_api_Product_api_Product__L1 (p1 : S_api_Product → Option (Bool)) (k2 : Nat) (x5 : S_api_Product) : Option (Unit ⊕ (Int)) :=
  (p1 x5).bind fun (r8 : Bool) => if r8 then (some (.inr (k2 : Int))) else (some (.inl ()))
noncomputable def slices_IndexFunc_L_api_Product_api_Product__E1 : Option (Int) :=
  some (-1)
noncomputable def m_slices_IndexFunc_L_api_Product_api_Product_ (s1 : (List S_api_Product)) (p1 : S_api_Product → Option (Bool)) : Option (Int) :=
  if s1.length ≤ 1000000000 then forL (fun (k : Nat) (x : S_api_Product) (s : Unit) => slices_IndexFunc_L_api_Product_api_Product__L1 p1 k x) (fun (s : Unit) => slices_IndexFunc_L_api_Product_api_Product__E1) 0 s1 () else none
noncomputable def m_gateref2_ProductAt_1 (p1 : S_api_Product) (c2 : Bs) : Option (Bool) :=
  some (decide (p1.Key = c2))
noncomputable def m_gateref2_ProductAt (c1 : S_api_Catalog) (key2 : Bs) : Option (Int) :=
  (m_slices_IndexFunc_L_api_Product_api_Product_ c1.Products (fun (a0 : S_api_Product) => m_gateref2_ProductAt_1 a0 key2)).bind fun (r3 : (Int)) => some r3
noncomputable def gateref2_planFault_J4 (v34 : Bool) : Option (Int) :=
  if v34 then some 1 else some 0
noncomputable def gateref2_planFault_J3 (v2 : S_api_Plan) (v25 : Bool) : Option (Int) :=
  if v25 then some 3 else ((m_gateref2_in v2.Limit (-1) 1000000000000).bind fun (r27 : (Bool)) => if !r27 then (gateref2_planFault_J4 true) else ((m_gateref2_in v2.Trial 0 132).bind fun (r31 : (Bool)) => gateref2_planFault_J4 (!r31)))
noncomputable def gateref2_planFault_J6 (v52 : Bool) : Option (Unit ⊕ (Int)) :=
  if v52 then (some (.inr 7)) else (some (.inl ()))
noncomputable def gateref2_planFault_J5 (v2 : S_api_Plan) (k16 : Nat) (x19 : S_api_Tier) (v45 : Bool) : Option (Unit ⊕ (Int)) :=
  if v45 then (some (.inr 1)) else (if decide (0 < (k16 : Int)) then ((at? v2.Tiers ((k16 : Int) - 1)).bind fun (x49 : S_api_Tier) => gateref2_planFault_J6 (decide (x19.From ≤ x49.From))) else (gateref2_planFault_J6 false))
noncomputable def gateref2_planFault_L2 (v2 : S_api_Plan) (k16 : Nat) (x19 : S_api_Tier) : Option (Unit ⊕ (Int)) :=
  (m_gateref2_in x19.From 1 1000000000000).bind fun (r38 : (Bool)) => if !r38 then (gateref2_planFault_J5 v2 k16 x19 true) else ((m_gateref2_in x19.Cents 0 1000000).bind fun (r42 : (Bool)) => gateref2_planFault_J5 v2 k16 x19 (!r42))
noncomputable def gateref2_planFault_E2 (v2 : S_api_Plan) : Option (Int) :=
  if decide (0 < (v2.Tiers.length : Int)) then ((v2.Tiers[0]?).bind fun (x22 : S_api_Tier) => gateref2_planFault_J3 v2 (decide (x22.From ≠ 1))) else (gateref2_planFault_J3 v2 false)
noncomputable def gateref2_planFault_J1 (v2 : S_api_Plan) (v13 : Bool) : Option (Int) :=
  if v13 then some 1 else (if decide (20 < (v2.Tiers.length : Int)) then some 2 else (if v2.Tiers.length ≤ 1000000000 then forL (fun (k : Nat) (x : S_api_Tier) (s : Unit) => gateref2_planFault_L2 v2 k x) (fun (s : Unit) => gateref2_planFault_E2 v2) 0 v2.Tiers () else none))
noncomputable def m_gateref2_planFault (v1 : S_api_Catalog) (v2 : S_api_Plan) : Option (Int) :=
  (m_gateref2_ProductAt v1 v2.Product).bind fun (r3 : (Int)) => if decide (r3 < 0) then some 8 else ((m_gateref2_in v2.Base 0 1000000000000).bind fun (r6 : (Bool)) => if !r6 then (gateref2_planFault_J1 v2 true) else ((m_gateref2_in v2.Free 0 1000000000000).bind fun (r10 : (Bool)) => gateref2_planFault_J1 v2 (!r10)))
noncomputable def gateref2_scope_L1 (r2 : ((List Bs))) (k4 : Nat) (x7 : Bs) : Option (Unit ⊕ (Bool)) :=
  (m_gateref2_Key x7).bind fun (r10 : (Bool)) => if ((!r10) && ((decide (x7 ≠ [42])) || (decide ((k4 : Int) < (wr ((r2.length : Int) - 1)))))) then (some (.inr false)) else (some (.inl ()))
noncomputable def gateref2_scope_E1 (r2 : ((List Bs))) : Option (Bool) :=
  some (decide ((r2.length : Int) ≤ 10))
noncomputable def m_gateref2_scope (s1 : Bs) : Option (Bool) :=
  (m_strings_Split s1 [58]).bind fun (r2 : ((List Bs))) => if r2.length ≤ 1000000000 then forL (fun (k : Nat) (x : Bs) (s : Unit) => gateref2_scope_L1 r2 k x) (fun (s : Unit) => gateref2_scope_E1 r2) 0 r2 () else none
noncomputable def gateref2_ScopesFault_L1 (k3 : Nat) (x6 : Bs) : Option (Unit ⊕ (Int)) :=
  (m_gateref2_scope x6).bind fun (r9 : (Bool)) => if !r9 then (some (.inr 3)) else (some (.inl ()))
noncomputable def gateref2_ScopesFault_E1 : Option (Int) :=
  some 0
noncomputable def m_gateref2_ScopesFault (l1 : (List Bs)) : Option (Int) :=
  if decide (50 < (l1.length : Int)) then some 2 else (if l1.length ≤ 1000000000 then forL (fun (k : Nat) (x : Bs) (s : Unit) => gateref2_ScopesFault_L1 k x) (fun (s : Unit) => gateref2_ScopesFault_E1) 0 l1 () else none)
noncomputable def gateref2_CatalogFault_L2 (v1 : S_api_Catalog) (k10 : Nat) (x13 : S_api_Plan) (v9 : Bs) : Option (Bs ⊕ (Int)) :=
  (m_gateref2_Key x13.Key).bind fun (r16 : (Bool)) => if !r16 then (some (.inr 5)) else (if (Op.bytesLess x13.Key v9 || x13.Key == v9) then (some (.inr 7)) else ((m_gateref2_planFault v1 x13).bind fun (r20 : (Int)) => if decide (r20 ≠ 0) then (some (.inr r20)) else (some (.inl x13.Key))))
noncomputable def gateref2_CatalogFault_E2 (v9 : Bs) : Option (Int) :=
  some 0
noncomputable def gateref2_CatalogFault_L1 (k4 : Nat) (x7 : S_api_Product) (v3 : Bs) : Option (Bs ⊕ (Int)) :=
  (m_gateref2_Key x7.Key).bind fun (r25 : (Bool)) => if !r25 then (some (.inr 5)) else (if (Op.bytesLess x7.Key v3 || x7.Key == v3) then (some (.inr 7)) else ((m_gateref2_ScopesFault x7.Scopes).bind fun (r29 : (Int)) => if decide (r29 ≠ 0) then (some (.inr r29)) else (some (.inl x7.Key))))
noncomputable def gateref2_CatalogFault_E1 (v1 : S_api_Catalog) (v3 : Bs) : Option (Int) :=
  if decide (100 < (v1.Plans.length : Int)) then some 2 else (if v1.Plans.length ≤ 1000000000 then forL (fun (k : Nat) (x : S_api_Plan) (s : Bs) => gateref2_CatalogFault_L2 v1 k x s) (fun (s : Bs) => gateref2_CatalogFault_E2 s) 0 v1.Plans [] else none)
noncomputable def m_gateref2_CatalogFault (v1 : S_api_Catalog) : Option (Int) :=
  if decide (100 < (v1.Products.length : Int)) then some 2 else (if v1.Products.length ≤ 1000000000 then forL (fun (k : Nat) (x : S_api_Product) (s : Bs) => gateref2_CatalogFault_L1 k x s) (fun (s : Bs) => gateref2_CatalogFault_E1 v1 s) 0 v1.Products [] else none)
noncomputable def slices_IndexFunc_L_api_Plan_api_Plan__L1 (p1 : S_api_Plan → Option (Bool)) (k2 : Nat) (x5 : S_api_Plan) : Option (Unit ⊕ (Int)) :=
  (p1 x5).bind fun (r8 : Bool) => if r8 then (some (.inr (k2 : Int))) else (some (.inl ()))
noncomputable def slices_IndexFunc_L_api_Plan_api_Plan__E1 : Option (Int) :=
  some (-1)
noncomputable def m_slices_IndexFunc_L_api_Plan_api_Plan_ (s1 : (List S_api_Plan)) (p1 : S_api_Plan → Option (Bool)) : Option (Int) :=
  if s1.length ≤ 1000000000 then forL (fun (k : Nat) (x : S_api_Plan) (s : Unit) => slices_IndexFunc_L_api_Plan_api_Plan__L1 p1 k x) (fun (s : Unit) => slices_IndexFunc_L_api_Plan_api_Plan__E1) 0 s1 () else none
noncomputable def m_gateref2_PlanAt_1 (p1 : S_api_Plan) (c2 : Bs) : Option (Bool) :=
  some (decide (p1.Key = c2))
noncomputable def m_gateref2_PlanAt (c1 : S_api_Catalog) (key2 : Bs) : Option (Int) :=
  (m_slices_IndexFunc_L_api_Plan_api_Plan_ c1.Plans (fun (a0 : S_api_Plan) => m_gateref2_PlanAt_1 a0 key2)).bind fun (r3 : (Int)) => some r3
noncomputable def m_gatelaw2_when (is1 : Bool) (e2 : Int) : Option (Int) :=
  if is1 then some e2 else some 0
noncomputable def gatelaw2_errs_L1 (k2 : Nat) (x5 : Int) : Option (Unit ⊕ (Int)) :=
  if decide (x5 ≠ 0) then (some (.inr x5)) else (some (.inl ()))
noncomputable def gatelaw2_errs_E1 : Option (Int) :=
  some 0
noncomputable def m_gatelaw2_errs (l1 : (List Int)) : Option (Int) :=
  if l1.length ≤ 1000000000 then forL (fun (k : Nat) (x : Int) (s : Unit) => gatelaw2_errs_L1 k x) (fun (s : Unit) => gatelaw2_errs_E1) 0 l1 () else none
noncomputable def slices_Equal_L_api_Tier_api_Tier__L1 (s2 : (List S_api_Tier)) (k4 : Nat) (x7 : S_api_Tier) : Option (Unit ⊕ (Bool)) :=
  (s2[k4]?).bind fun (x10 : S_api_Tier) => if (!((x7.From == x10.From) && ((x7.Cents == x10.Cents) && true))) then (some (.inr false)) else (some (.inl ()))
noncomputable def slices_Equal_L_api_Tier_api_Tier__E1 : Option (Bool) :=
  some true
noncomputable def m_slices_Equal_L_api_Tier_api_Tier_ (s1 : (List S_api_Tier)) (s2 : (List S_api_Tier)) : Option (Bool) :=
  if decide ((s1.length : Int) ≠ (s2.length : Int)) then some false else (if s1.length ≤ 1000000000 then forL (fun (k : Nat) (x : S_api_Tier) (s : Unit) => slices_Equal_L_api_Tier_api_Tier__L1 s2 k x) (fun (s : Unit) => slices_Equal_L_api_Tier_api_Tier__E1) 0 s1 () else none)
noncomputable def gateref2_SamePlan_J1 (v17 : Bool) : Option (Bool) :=
  some v17
noncomputable def m_gateref2_SamePlan (a1 : S_api_Plan) (b2 : S_api_Plan) : Option (Bool) :=
  (m_slices_Equal_L_api_Tier_api_Tier_ a1.Tiers b2.Tiers).bind fun (r3 : (Bool)) => if r3 then (if decide (a1.Key = b2.Key) then (if decide (a1.Product = b2.Product) then (if ((a1.Base == b2.Base) && ((a1.Free == b2.Free) && ((a1.Limit == b2.Limit) && ((a1.Trial == b2.Trial) && true)))) then (gateref2_SamePlan_J1 (a1.Asked == b2.Asked)) else (gateref2_SamePlan_J1 false)) else (gateref2_SamePlan_J1 false)) else (gateref2_SamePlan_J1 false)) else (gateref2_SamePlan_J1 false)
noncomputable def gateref2_PriceOf_L1 (k7 : Nat) (x8 : S_api_Tier) (c3 : Int) (c4 : Int) : Option ((Int × Int) ⊕ (Int)) :=
  if decide (x8.From ≤ c3) then (some (.inl (wr (x8.From - 1), wr (c4 + (wr ((wr ((wr (c3 - x8.From)) + 1)) * x8.Cents)))))) else (some (.inl (c3, c4)))
noncomputable def gateref2_PriceOf_E1 (c3 : Int) (c4 : Int) : Option (Int) :=
  if ((0 : Int) ≤ c4 ∧ c4 ≤ 9223372036854775807) ∧ (0 : Int) < 1000 then (some (c4 / 1000)) else none
noncomputable def m_gateref2_PriceOf (p1 : S_api_Plan) (calls2 : Int) : Option (Int) :=
  if p1.Tiers.length ≤ 1000000000 then back (fun (k : Nat) (x : S_api_Tier) (s : Int × Int) => gateref2_PriceOf_L1 k x s.1 s.2) (fun (s : Int × Int) => gateref2_PriceOf_E1 s.1 s.2) p1.Tiers p1.Tiers.length ((max 0 (wr (calls2 - p1.Free))), 0) else none
noncomputable def m_gatelaw2_priced  : Option (Bool) :=
  (m_portal_Price (S_api_Catalog.mk ([(S_api_Product.mk [112] [])]) ([(S_api_Plan.mk [113] [112] 0 0 [(S_api_Tier.mk 1 2000)] 0 0 false)])) [113] 3).bind fun (r1 : (Int × Int)) => some ((decide (r1.2 = 0)) && (decide (r1.1 = 6)))
noncomputable def gatelaw2_CatalogsPrice_J3 (v66 : Bool) : Option (Bool) :=
  some v66
noncomputable def gatelaw2_CatalogsPrice_J2 (r10 : (Int × Int)) (v60 : Int) : Option (Bool) :=
  if decide (r10.1 = v60) then ((m_gatelaw2_priced ).bind fun (r63 : (Bool)) => gatelaw2_CatalogsPrice_J3 r63) else (gatelaw2_CatalogsPrice_J3 false)
noncomputable def gatelaw2_CatalogsPrice_J1 (r2 : (S_api_Catalog × S_gatemake_Stream)) (r6 : (Int × S_gatemake_Stream)) (r10 : (Int × Int)) (r17 : (Int)) (r25 : (Int)) (v53 : Bool) : Option (Bool) :=
  if v53 then some false else (if decide (r25 = 0) then ((at? r2.1.Plans r17).bind fun (x56 : S_api_Plan) => (m_gateref2_PriceOf x56 r6.1).bind fun (r58 : (Int)) => gatelaw2_CatalogsPrice_J2 r10 r58) else (gatelaw2_CatalogsPrice_J2 r10 0))
noncomputable def m_gatelaw2_CatalogsPrice (v1 : (List Int)) : Option (Bool) :=
  (m_gatemake_Stream_Catalog (S_gatemake_Stream.mk v1 0)).bind fun (r2 : (S_api_Catalog × S_gatemake_Stream)) => (m_gatemake_Stream_Some r2.2 ([[98, 105, 103], [109, 105, 100], [115, 109, 97, 108, 108], [102, 114, 101, 101], [110, 111, 110, 101]])).bind fun (r4 : (Bs × S_gatemake_Stream)) => (m_gatemake_Stream_Pick r4.2 [0, 9, 10, 11, 100, 101, 110, 1000, 1000000000000, (-1)]).bind fun (r6 : (Int × S_gatemake_Stream)) => (m_portal_PlanOf r2.1 r4.1).bind fun (r8 : (S_api_Plan × Int)) => (m_portal_Price r2.1 r4.1 r6.1).bind fun (r10 : (Int × Int)) => (m_gateref2_CatalogFault r2.1).bind fun (r12 : (Int)) => (m_portal_CheckCatalog r2.1).bind fun (r14 : (Int)) => if decide (r14 ≠ r12) then some false else ((m_gateref2_PlanAt r2.1 r4.1).bind fun (r17 : (Int)) => (m_gatelaw2_when (decide (r17 < 0)) 8).bind fun (r19 : (Int)) => (m_gatelaw2_errs [r12, r19]).bind fun (r21 : (Int)) => (m_gatelaw2_when ((decide (r6.1 < 0)) || (decide (1000000000000 < r6.1))) 1).bind fun (r23 : (Int)) => (m_gatelaw2_errs [r21, r23]).bind fun (r25 : (Int)) => if decide (r8.2 ≠ r21) then (gatelaw2_CatalogsPrice_J1 r2 r6 r10 r17 r25 true) else (if decide (r10.2 ≠ r25) then (gatelaw2_CatalogsPrice_J1 r2 r6 r10 r17 r25 true) else (if decide (r21 = 0) then ((at? r2.1.Plans r17).bind fun (x33 : S_api_Plan) => (m_gateref2_SamePlan r8.1 x33).bind fun (r35 : (Bool)) => if !r35 then (gatelaw2_CatalogsPrice_J1 r2 r6 r10 r17 r25 true) else (if decide (r21 ≠ 0) then ((m_gateref2_SamePlan r8.1 (S_api_Plan.mk [] [] 0 0 [] 0 0 false)).bind fun (r41 : (Bool)) => gatelaw2_CatalogsPrice_J1 r2 r6 r10 r17 r25 (!r41)) else (gatelaw2_CatalogsPrice_J1 r2 r6 r10 r17 r25 false))) else (if decide (r21 ≠ 0) then ((m_gateref2_SamePlan r8.1 (S_api_Plan.mk [] [] 0 0 [] 0 0 false)).bind fun (r48 : (Bool)) => gatelaw2_CatalogsPrice_J1 r2 r6 r10 r17 r25 (!r48)) else (gatelaw2_CatalogsPrice_J1 r2 r6 r10 r17 r25 false)))))
noncomputable def m_gatemake_Stream_ProductKey (s1 : S_gatemake_Stream) : Option (Bs × S_gatemake_Stream) :=
  (m_gatemake_Stream_Some s1 ([[115, 104, 111, 112], [115, 104, 111, 112], [115, 104, 111, 112], [109, 97, 112, 115], [110, 111, 110, 101]])).bind fun (r2 : (Bs × S_gatemake_Stream)) => some (r2.1, r2.2)
noncomputable def portal_Cheapest_J2 (v26 : Bs) (v27 : Int) : Option ((Bs × Int) ⊕ (Bs × Int × Int)) :=
  some (.inl (v26, v27))
noncomputable def portal_Cheapest_L1 (v2 : Bs) (v3 : Int) (k15 : Nat) (x18 : S_api_Plan) (v13 : Bs) (v14 : Int) : Option ((Bs × Int) ⊕ (Bs × Int × Int)) :=
  if ((decide (x18.Product ≠ v2)) || ((decide (0 ≤ x18.Limit)) && (decide (x18.Limit < v3)))) then (portal_Cheapest_J2 v13 v14) else ((m_portal_price x18 v3).bind fun (r23 : (Int)) => if ((decide (v13 = [])) || (decide ((wr (x18.Base + r23)) < v14))) then (portal_Cheapest_J2 x18.Key (wr (x18.Base + r23))) else (portal_Cheapest_J2 v13 v14))
noncomputable def portal_Cheapest_E1 (v13 : Bs) (v14 : Int) : Option (Bs × Int × Int) :=
  if decide (v13 = []) then (some ([], 0, 8)) else (some (v13, v14, 0))
noncomputable def m_portal_Cheapest (v1 : S_api_Catalog) (v2 : Bs) (v3 : Int) : Option (Bs × Int × Int) :=
  (m_portal_CheckCatalog v1).bind fun (r4 : (Int)) => if decide (r4 ≠ 0) then (some ([], 0, r4)) else ((m_portal_productAt v1 v2).bind fun (r7 : (Int × Bool)) => if !r7.2 then (some ([], 0, 8)) else ((m_kit_Outside v3 0 1000000000000).bind fun (r10 : (Bool)) => if r10 then (some ([], 0, 1)) else (if v1.Plans.length ≤ 1000000000 then forL (fun (k : Nat) (x : S_api_Plan) (s : Bs × Int) => portal_Cheapest_L1 v2 v3 k x s.1 s.2) (fun (s : Bs × Int) => portal_Cheapest_E1 s.1 s.2) 0 v1.Plans ([], 0) else none)))
noncomputable def portal_Level_L1 (r8 : (S_api_Plan × Bool)) (r10 : (S_api_Plan × Bool)) (k16 : Nat) : Option (Unit ⊕ (Int × Int)) :=
  (m_portal_price r8.1 (k16 : Int)).bind fun (r20 : (Int)) => (m_portal_price r10.1 (k16 : Int)).bind fun (r22 : (Int)) => if decide ((wr (r8.1.Base + r20)) ≤ (wr (r10.1.Base + r22))) then (some (.inr ((k16 : Int), 0))) else (some (.inl ()))
noncomputable def portal_Level_E1 : Option (Int × Int) :=
  some (0, 8)
noncomputable def m_portal_Level (c1 : S_api_Catalog) (a2 : Bs) (b3 : Bs) (most4 : Int) : Option (Int × Int) :=
  (m_portal_CheckCatalog c1).bind fun (r5 : (Int)) => if decide (r5 ≠ 0) then (some (0, r5)) else ((m_portal_planOf c1 a2).bind fun (r8 : (S_api_Plan × Bool)) => (m_portal_planOf c1 b3).bind fun (r10 : (S_api_Plan × Bool)) => if ((!r8.2) || (!r10.2)) then (some (0, 8)) else ((m_kit_Outside most4 0 100000).bind fun (r13 : (Bool)) => if r13 then (some (0, 1)) else (if (wr (most4 + 1)) ≤ 1000000000 then rng (fun (k : Nat) (s : Unit) => portal_Level_L1 r8 r10 k) (fun (s : Unit) => portal_Level_E1) ((wr (most4 + 1)).toNat) 0 () else none)))
noncomputable def gateref2_CheapestOf_J2 (key16 : Bs) (cents17 : Int) (found18 : Bool) : Option ((Bs × Int × Bool) ⊕ (Bs × Int × Bool)) :=
  some (.inl (key16, cents17, found18))
noncomputable def gateref2_CheapestOf_L1 (product2 : Bs) (calls3 : Int) (k7 : Nat) (x10 : S_api_Plan) (key4 : Bs) (cents5 : Int) (found6 : Bool) : Option ((Bs × Int × Bool) ⊕ (Bs × Int × Bool)) :=
  (m_gateref2_PriceOf x10 calls3).bind fun (r13 : (Int)) => if (((decide (x10.Product = product2)) && ((decide (x10.Limit < 0)) || (decide (calls3 ≤ x10.Limit)))) && ((!found6) || (decide ((wr (x10.Base + r13)) < cents5)))) then (gateref2_CheapestOf_J2 x10.Key (wr (x10.Base + r13)) true) else (gateref2_CheapestOf_J2 key4 cents5 found6)
noncomputable def gateref2_CheapestOf_E1 (key4 : Bs) (cents5 : Int) (found6 : Bool) : Option (Bs × Int × Bool) :=
  some (key4, cents5, found6)
noncomputable def m_gateref2_CheapestOf (c1 : S_api_Catalog) (product2 : Bs) (calls3 : Int) : Option (Bs × Int × Bool) :=
  if c1.Plans.length ≤ 1000000000 then forL (fun (k : Nat) (x : S_api_Plan) (s : Bs × Int × Bool) => gateref2_CheapestOf_L1 product2 calls3 k x s.1 s.2.1 s.2.2) (fun (s : Bs × Int × Bool) => gateref2_CheapestOf_E1 s.1 s.2.1 s.2.2) 0 c1.Plans ([], 0, false) else none
noncomputable def gateref2_LevelOf_L1 (a1 : S_api_Plan) (b2 : S_api_Plan) (k4 : Nat) : Option (Unit ⊕ (Int × Bool)) :=
  (m_gateref2_PriceOf a1 (k4 : Int)).bind fun (r8 : (Int)) => (m_gateref2_PriceOf b2 (k4 : Int)).bind fun (r10 : (Int)) => if decide ((wr (a1.Base + r8)) ≤ (wr (b2.Base + r10))) then (some (.inr ((k4 : Int), true))) else (some (.inl ()))
noncomputable def gateref2_LevelOf_E1 : Option (Int × Bool) :=
  some (0, false)
noncomputable def m_gateref2_LevelOf (a1 : S_api_Plan) (b2 : S_api_Plan) (most3 : Int) : Option (Int × Bool) :=
  if (wr (most3 + 1)) ≤ 1000000000 then rng (fun (k : Nat) (s : Unit) => gateref2_LevelOf_L1 a1 b2 k) (fun (s : Unit) => gateref2_LevelOf_E1) ((wr (most3 + 1)).toNat) 0 () else none
noncomputable def gatelaw2_PlansCompared_J4 (v102 : Bool) : Option (Bool) :=
  some v102
noncomputable def gatelaw2_PlansCompared_J3 (r14 : (Bs × Int × Int)) (r16 : (Int × Int)) (v67 : Int) (v68 : Bs) (v69 : Int) (v83 : Int) (v84 : Int) : Option (Bool) :=
  if decide (r14.2.2 = v67) then (if decide (r14.1 = v68) then (if decide (r14.2.1 = v69) then (if decide (r16.2 = v83) then (if decide (r16.1 = v84) then ((m_gatelaw2_priced ).bind fun (r95 : (Bool)) => gatelaw2_PlansCompared_J4 r95) else (gatelaw2_PlansCompared_J4 false)) else (gatelaw2_PlansCompared_J4 false)) else (gatelaw2_PlansCompared_J4 false)) else (gatelaw2_PlansCompared_J4 false)) else (gatelaw2_PlansCompared_J4 false)
noncomputable def gatelaw2_PlansCompared_J2 (r2 : (S_api_Catalog × S_gatemake_Stream)) (r8 : (Bs × S_gatemake_Stream)) (r10 : (Bs × S_gatemake_Stream)) (r12 : (Int × S_gatemake_Stream)) (r14 : (Bs × Int × Int)) (r16 : (Int × Int)) (v61 : Int) (v67 : Int) (v68 : Bs) (v69 : Int) : Option (Bool) :=
  if decide (v61 = 0) then ((m_gateref2_PlanAt r2.1 r8.1).bind fun (r71 : (Int)) => (at? r2.1.Plans r71).bind fun (x73 : S_api_Plan) => (m_gateref2_PlanAt r2.1 r10.1).bind fun (r75 : (Int)) => (at? r2.1.Plans r75).bind fun (x77 : S_api_Plan) => (m_gateref2_LevelOf x73 x77 r12.1).bind fun (r79 : (Int × Bool)) => (m_gatelaw2_when (!r79.2) 8).bind fun (r81 : (Int)) => gatelaw2_PlansCompared_J3 r14 r16 v67 v68 v69 r81 r79.1) else (gatelaw2_PlansCompared_J3 r14 r16 v67 v68 v69 v61 0)
noncomputable def gatelaw2_PlansCompared_J1 (r2 : (S_api_Catalog × S_gatemake_Stream)) (r4 : (Bs × S_gatemake_Stream)) (r6 : (Int × S_gatemake_Stream)) (r8 : (Bs × S_gatemake_Stream)) (r10 : (Bs × S_gatemake_Stream)) (r12 : (Int × S_gatemake_Stream)) (r14 : (Bs × Int × Int)) (r16 : (Int × Int)) (r26 : (Int)) (v61 : Int) : Option (Bool) :=
  if decide (r26 = 0) then ((m_gateref2_CheapestOf r2.1 r4.1 r6.1).bind fun (r63 : (Bs × Int × Bool)) => (m_gatelaw2_when (!r63.2.2) 8).bind fun (r65 : (Int)) => gatelaw2_PlansCompared_J2 r2 r8 r10 r12 r14 r16 v61 r65 r63.1 r63.2.1) else (gatelaw2_PlansCompared_J2 r2 r8 r10 r12 r14 r16 v61 r26 [] 0)
noncomputable def m_gatelaw2_PlansCompared (v1 : (List Int)) : Option (Bool) :=
  (m_gatemake_Stream_Catalog (S_gatemake_Stream.mk v1 0)).bind fun (r2 : (S_api_Catalog × S_gatemake_Stream)) => (m_gatemake_Stream_ProductKey r2.2).bind fun (r4 : (Bs × S_gatemake_Stream)) => (m_gatemake_Stream_Pick r4.2 [0, 10, 100, 500, 2000, (-1)]).bind fun (r6 : (Int × S_gatemake_Stream)) => (m_gatemake_Stream_Some r6.2 ([[98, 105, 103], [109, 105, 100], [110, 111, 110, 101]])).bind fun (r8 : (Bs × S_gatemake_Stream)) => (m_gatemake_Stream_Some r8.2 ([[115, 109, 97, 108, 108], [102, 114, 101, 101], [98, 105, 103]])).bind fun (r10 : (Bs × S_gatemake_Stream)) => (m_gatemake_Stream_Pick r10.2 [0, 10, 200, 1000, (-1), 100001]).bind fun (r12 : (Int × S_gatemake_Stream)) => (m_portal_Cheapest r2.1 r4.1 r6.1).bind fun (r14 : (Bs × Int × Int)) => (m_portal_Level r2.1 r8.1 r10.1 r12.1).bind fun (r16 : (Int × Int)) => (m_gateref2_CatalogFault r2.1).bind fun (r18 : (Int)) => (m_gateref2_ProductAt r2.1 r4.1).bind fun (r20 : (Int)) => (m_gatelaw2_when (decide (r20 < 0)) 8).bind fun (r22 : (Int)) => (m_gatelaw2_when ((decide (r6.1 < 0)) || (decide (1000000000000 < r6.1))) 1).bind fun (r24 : (Int)) => (m_gatelaw2_errs [r18, r22, r24]).bind fun (r26 : (Int)) => (m_gateref2_PlanAt r2.1 r8.1).bind fun (r28 : (Int)) => if decide (r28 < 0) then ((m_gatelaw2_when true 8).bind fun (r48 : (Int)) => if decide (r12.1 < 0) then ((m_gatelaw2_when true 1).bind fun (r57 : (Int)) => (m_gatelaw2_errs [r18, r48, r57]).bind fun (r59 : (Int)) => gatelaw2_PlansCompared_J1 r2 r4 r6 r8 r10 r12 r14 r16 r26 r59) else ((m_gatelaw2_when (decide (100000 < r12.1)) 1).bind fun (r52 : (Int)) => (m_gatelaw2_errs [r18, r48, r52]).bind fun (r54 : (Int)) => gatelaw2_PlansCompared_J1 r2 r4 r6 r8 r10 r12 r14 r16 r26 r54)) else ((m_gateref2_PlanAt r2.1 r10.1).bind fun (r32 : (Int)) => (m_gatelaw2_when (decide (r32 < 0)) 8).bind fun (r34 : (Int)) => if decide (r12.1 < 0) then ((m_gatelaw2_when true 1).bind fun (r43 : (Int)) => (m_gatelaw2_errs [r18, r34, r43]).bind fun (r45 : (Int)) => gatelaw2_PlansCompared_J1 r2 r4 r6 r8 r10 r12 r14 r16 r26 r45) else ((m_gatelaw2_when (decide (100000 < r12.1)) 1).bind fun (r38 : (Int)) => (m_gatelaw2_errs [r18, r34, r38]).bind fun (r40 : (Int)) => gatelaw2_PlansCompared_J1 r2 r4 r6 r8 r10 r12 r14 r16 r26 r40))
end Go.Proofs.YtdajmjdjhgpaaaaDoor
