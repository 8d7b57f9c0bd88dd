/- Plain models of functions. Printed by a program. -/
import Derived.Test.YtaolapgdgdmapaaGreatDoorMc
import Derived.Test.YtaolapgdgdmapaaGreatDoorMl
namespace Go.Proofs.YtaolapgdgdmapaaGreatDoor
set_option linter.unusedVariables false
set_option maxRecDepth 20000
structure S_gatemake_Stream where
  L : (List Int)
  at_ : Int
structure S_api_Product where
  Key : Bs
  Scopes : (List Bs)
structure S_api_Tier where
  From : Int
  Cents : Int
structure S_api_Plan where
  Key : Bs
  Product : Bs
  Base : Int
  Free : Int
  Tiers : (List S_api_Tier)
  Limit : Int
  Trial : Int
  Asked : Bool
structure S_api_Catalog where
  Products : (List S_api_Product)
  Plans : (List S_api_Plan)
structure S_api_App where
  Key : Bs
  Owner : Bs
structure S_api_Event where
  At : Int
  App : Bs
  Product : Bs
  Kind : Int
  Plan : Bs
structure S_api_Sub where
  State : Int
  Plan : Bs
  Since : Int
  First : Int
structure S_portal_pair where
  app_ : Bs
  product_ : Bs
structure S_portal_book where
  subs_ : (List (S_portal_pair × S_api_Sub))
  asks_ : (List (S_portal_pair × Int))
noncomputable def gatemake_Below_J1 (x6 : Int) : Option (Int) :=
  some x6
noncomputable def m_gatemake_Below (x1 : Int) (n2 : Int) : Option (Int) :=
  if decide (n2 < 1) then some 0 else (if n2 ≠ 0 then (if decide ((Int.tmod x1 n2) < 0) then (gatemake_Below_J1 (wr ((Int.tmod x1 n2) + n2))) else (gatemake_Below_J1 (Int.tmod x1 n2))) else none)
noncomputable def m_gatemake_Stream_Next (s1 : S_gatemake_Stream) (n2 : Int) : Option (Int × S_gatemake_Stream) :=
  if decide ((s1.L.length : Int) = 0) then ((m_gatemake_Below (wr ((wr (s1.at_ + 1)) * 7919)) n2).bind fun (r4 : (Int)) => some (r4, (S_gatemake_Stream.mk s1.L (wr (s1.at_ + 1))))) else (if (s1.L.length : Int) ≠ 0 then (if ((0 : Int) ≤ (wr ((wr (s1.at_ + 1)) - 1)) ∧ (wr ((wr (s1.at_ + 1)) - 1)) ≤ 9223372036854775807) ∧ (0 : Int) < (s1.L.length : Int) then ((at? s1.L (Int.tmod (wr ((wr (s1.at_ + 1)) - 1)) (s1.L.length : Int))).bind fun (x8 : Int) => (m_gatemake_Below x8 1073741824).bind fun (r10 : (Int)) => (m_gatemake_Below (wr (r10 + (wr (((wr ((wr (s1.at_ + 1)) - 1)) / (s1.L.length : Int)) * (wr (7919 + (Int.tmod (wr ((wr (s1.at_ + 1)) - 1)) (s1.L.length : Int)))))))) n2).bind fun (r12 : (Int)) => some (r12, (S_gatemake_Stream.mk s1.L (wr (s1.at_ + 1))))) else none) else none)
noncomputable def m_gatemake_Stream_Range (s1 : S_gatemake_Stream) (low2 : Int) (high3 : Int) : Option (Int × S_gatemake_Stream) :=
  if decide (high3 < low2) then (some (low2, s1)) else ((m_gatemake_Stream_Next s1 (wr ((wr (high3 - low2)) + 1))).bind fun (r5 : (Int × S_gatemake_Stream)) => some (wr (low2 + r5.1), r5.2))
noncomputable def m_gatemake_Stream_Flip (s1 : S_gatemake_Stream) (n2 : Int) : Option (Bool × S_gatemake_Stream) :=
  (m_gatemake_Stream_Next s1 n2).bind fun (r3 : (Int × S_gatemake_Stream)) => some (decide (r3.1 = 0), r3.2)
noncomputable def m_gatemake_Stream_Some (s1 : S_gatemake_Stream) (l2 : (List Bs)) : Option (Bs × S_gatemake_Stream) :=
  (m_gatemake_Stream_Next s1 (l2.length : Int)).bind fun (r3 : (Int × S_gatemake_Stream)) => (at? l2 r3.1).bind fun (x5 : Bs) => some (x5, r3.2)
noncomputable def m_gatemake_Stream_Pick (s1 : S_gatemake_Stream) (l2 : (List Int)) : Option (Int × S_gatemake_Stream) :=
  (m_gatemake_Stream_Next s1 (l2.length : Int)).bind fun (r3 : (Int × S_gatemake_Stream)) => (at? l2 r3.1).bind fun (x5 : Int) => some (x5, r3.2)
noncomputable def m_gatemake_Stream_Odd (s1 : S_gatemake_Stream) (low2 : Int) (high3 : Int) : Option (Int × S_gatemake_Stream) :=
  (m_gatemake_Stream_Flip s1 12).bind fun (r4 : (Bool × S_gatemake_Stream)) => if r4.1 then ((m_gatemake_Stream_Pick r4.2 [wr (low2 - 1), wr (high3 + 1), low2, high3, (-1099511627776), 1099511627776]).bind fun (r7 : (Int × S_gatemake_Stream)) => some (r7.1, r7.2)) else ((m_gatemake_Stream_Range r4.2 low2 high3).bind fun (r9 : (Int × S_gatemake_Stream)) => some (r9.1, r9.2))
noncomputable def gatemake_Stream_RightScopes_L1 (k7 : Nat) (c4 : (List Int)) (c5 : Int) (l6 : (List Bs)) : Option (((List Int) × Int × (List Bs)) ⊕ ((List Bs) × S_gatemake_Stream)) :=
  (m_gatemake_Stream_Some (S_gatemake_Stream.mk c4 c5) ([[97], [97, 58, 42], [97, 58, 98], [97, 58, 98, 58, 42], [97, 58, 98, 58, 99], [98], [98, 58, 42], [98, 58, 99], [42]])).bind fun (r11 : (Bs × S_gatemake_Stream)) => if l6.length + 1 ≤ 1000000000 then (some (.inl (r11.2.L, r11.2.at_, (l6 ++ [r11.1])))) else none
noncomputable def gatemake_Stream_RightScopes_E1 (c4 : (List Int)) (c5 : Int) (l6 : (List Bs)) : Option ((List Bs) × S_gatemake_Stream) :=
  some (l6, (S_gatemake_Stream.mk c4 c5))
noncomputable def m_gatemake_Stream_RightScopes (s1 : S_gatemake_Stream) : Option ((List Bs) × S_gatemake_Stream) :=
  (m_gatemake_Stream_Range s1 0 4).bind fun (r2 : (Int × S_gatemake_Stream)) => if r2.1 ≤ 1000000000 then rng (fun (k : Nat) (s : (List Int) × Int × (List Bs)) => gatemake_Stream_RightScopes_L1 k s.1 s.2.1 s.2.2) (fun (s : (List Int) × Int × (List Bs)) => gatemake_Stream_RightScopes_E1 s.1 s.2.1 s.2.2) r2.1.toNat 0 (r2.2.L, r2.2.at_, []) else none
noncomputable def m_gatemake_Stream_Scope (s1 : S_gatemake_Stream) : Option (Bs × S_gatemake_Stream) :=
  (m_gatemake_Stream_Flip s1 25).bind fun (r2 : (Bool × S_gatemake_Stream)) => if r2.1 then ((m_strings_Repeat [97, 58] 10).bind fun (r5 : (Bs)) => if r5.length + [97].length ≤ 1000000000 then ((m_gatemake_Stream_Some r2.2 ([[], [97, 58, 42, 58, 98], [65], [97, 58, 58, 98], [97, 58], [42, 42], [97, 42], (r5 ++ [97])])).bind fun (r8 : (Bs × S_gatemake_Stream)) => some (r8.1, r8.2)) else none) else ((m_gatemake_Stream_Some r2.2 ([[42], [97], [97, 58, 42], [97, 58, 98], [97, 58, 98, 58, 42], [97, 58, 98, 58, 99], [98], [98, 58, 42], [98, 58, 99], [99]])).bind fun (r10 : (Bs × S_gatemake_Stream)) => some (r10.1, r10.2))
noncomputable def gatemake_Stream_Scopes_J2 (out17 : (List Bs)) (c18 : (List Int)) (c19 : Int) : Option ((List Bs) × S_gatemake_Stream) :=
  some (out17, (S_gatemake_Stream.mk c18 c19))
noncomputable def gatemake_Stream_Scopes_J1 (out10 : (List Bs)) (c11 : (List Int)) (c12 : Int) : Option ((List Bs) × S_gatemake_Stream) :=
  (m_gatemake_Stream_Flip (S_gatemake_Stream.mk c11 c12) 60).bind fun (r13 : (Bool × S_gatemake_Stream)) => if r13.1 then (if 51 ≤ 1000000000 then (gatemake_Stream_Scopes_J2 (List.replicate 51 []) r13.2.L r13.2.at_) else none) else (gatemake_Stream_Scopes_J2 out10 r13.2.L r13.2.at_)
noncomputable def m_gatemake_Stream_Scopes (s1 : S_gatemake_Stream) : Option ((List Bs) × S_gatemake_Stream) :=
  (m_gatemake_Stream_RightScopes s1).bind fun (r2 : ((List Bs) × S_gatemake_Stream)) => (m_gatemake_Stream_Flip r2.2 6).bind fun (r4 : (Bool × S_gatemake_Stream)) => if r4.1 then ((m_gatemake_Stream_Scope r4.2).bind fun (r7 : (Bs × S_gatemake_Stream)) => if r2.1.length + 1 ≤ 1000000000 then (gatemake_Stream_Scopes_J1 (r2.1 ++ [r7.1]) r7.2.L r7.2.at_) else none) else (gatemake_Stream_Scopes_J1 r2.1 r4.2.L r4.2.at_)
noncomputable def gatemake_Stream_RightCatalog_L3 (k34 : Nat) (v30 : Int) (l31 : (List S_api_Tier)) (c32 : (List Int)) (c33 : Int) : Option ((Int × (List S_api_Tier) × (List Int) × Int) ⊕ (((List S_api_Plan) × (List Int) × Int) ⊕ (S_api_Catalog × S_gatemake_Stream))) :=
  (m_gatemake_Stream_Pick (S_gatemake_Stream.mk c32 c33) [0, 100, 500, 1500]).bind fun (r39 : (Int × S_gatemake_Stream)) => if l31.length + 1 ≤ 1000000000 then ((m_gatemake_Stream_Pick r39.2 [1, 9, 100]).bind fun (r42 : (Int × S_gatemake_Stream)) => some (.inl (wr (v30 + r42.1), (l31 ++ [(S_api_Tier.mk v30 r39.1)]), r42.2.L, r42.2.at_))) else none
noncomputable def gatemake_Stream_RightCatalog_J2 (c44 : (List Int)) (c45 : Int) (l46 : (List S_api_Plan)) : Option (((List S_api_Plan) × (List Int) × Int) ⊕ (S_api_Catalog × S_gatemake_Stream)) :=
  some (.inl (l46, c44, c45))
noncomputable def gatemake_Stream_RightCatalog_E3 (l4 : (List S_api_Plan)) (x10 : Bs) (r16 : (Bs × S_gatemake_Stream)) (r18 : (Int × S_gatemake_Stream)) (r20 : (Int × S_gatemake_Stream)) (r22 : (Int × S_gatemake_Stream)) (r24 : (Int × S_gatemake_Stream)) (r26 : (Bool × S_gatemake_Stream)) (v30 : Int) (l31 : (List S_api_Tier)) (c32 : (List Int)) (c33 : Int) : Option (((List S_api_Plan) × (List Int) × Int) ⊕ (S_api_Catalog × S_gatemake_Stream)) :=
  if l4.length + 1 ≤ 1000000000 then (gatemake_Stream_RightCatalog_J2 c32 c33 (l4 ++ [(S_api_Plan.mk x10 r16.1 r18.1 r20.1 l31 r22.1 r24.1 r26.1)])) else none
noncomputable def gatemake_Stream_RightCatalog_L1 (k7 : Nat) (x10 : Bs) (l4 : (List S_api_Plan)) (c5 : (List Int)) (c6 : Int) : Option (((List S_api_Plan) × (List Int) × Int) ⊕ (S_api_Catalog × S_gatemake_Stream)) :=
  (m_gatemake_Stream_Flip (S_gatemake_Stream.mk c5 c6) 5).bind fun (r13 : (Bool × S_gatemake_Stream)) => if r13.1 then (gatemake_Stream_RightCatalog_J2 r13.2.L r13.2.at_ l4) else ((m_gatemake_Stream_Some r13.2 ([[115, 104, 111, 112], [115, 104, 111, 112], [109, 97, 112, 115]])).bind fun (r16 : (Bs × S_gatemake_Stream)) => (m_gatemake_Stream_Pick r16.2 [0, 0, 1000, 3000, 31]).bind fun (r18 : (Int × S_gatemake_Stream)) => (m_gatemake_Stream_Pick r18.2 [0, 10, 100]).bind fun (r20 : (Int × S_gatemake_Stream)) => (m_gatemake_Stream_Pick r20.2 [(-1), (-1), 0, 1000]).bind fun (r22 : (Int × S_gatemake_Stream)) => (m_gatemake_Stream_Pick r22.2 [0, 0, 1, 2]).bind fun (r24 : (Int × S_gatemake_Stream)) => (m_gatemake_Stream_Flip r24.2 2).bind fun (r26 : (Bool × S_gatemake_Stream)) => (m_gatemake_Stream_Pick r26.2 [0, 1, 2, 3]).bind fun (r28 : (Int × S_gatemake_Stream)) => if r28.1 ≤ 1000000000 then rng (fun (k : Nat) (s : Int × (List S_api_Tier) × (List Int) × Int) => gatemake_Stream_RightCatalog_L3 k s.1 s.2.1 s.2.2.1 s.2.2.2) (fun (s : Int × (List S_api_Tier) × (List Int) × Int) => gatemake_Stream_RightCatalog_E3 l4 x10 r16 r18 r20 r22 r24 r26 s.1 s.2.1 s.2.2.1 s.2.2.2) r28.1.toNat 0 (1, ([] : List S_api_Tier), r28.2.L, r28.2.at_) else none)
noncomputable def gatemake_Stream_RightCatalog_E1 (r2 : ((List Bs) × S_gatemake_Stream)) (l4 : (List S_api_Plan)) (c5 : (List Int)) (c6 : Int) : Option (S_api_Catalog × S_gatemake_Stream) :=
  some ((S_api_Catalog.mk ([(S_api_Product.mk [109, 97, 112, 115] r2.1), (S_api_Product.mk [115, 104, 111, 112] ([[111, 114, 100, 101, 114, 115]]))]) l4), (S_gatemake_Stream.mk c5 c6))
noncomputable def m_gatemake_Stream_RightCatalog (s1 : S_gatemake_Stream) : Option (S_api_Catalog × S_gatemake_Stream) :=
  (m_gatemake_Stream_RightScopes s1).bind fun (r2 : ((List Bs) × S_gatemake_Stream)) => if ([[98, 105, 103], [102, 114, 101, 101], [109, 105, 100], [115, 109, 97, 108, 108]]).length ≤ 1000000000 then forL (fun (k : Nat) (x : Bs) (s : (List S_api_Plan) × (List Int) × Int) => gatemake_Stream_RightCatalog_L1 k x s.1 s.2.1 s.2.2) (fun (s : (List S_api_Plan) × (List Int) × Int) => gatemake_Stream_RightCatalog_E1 r2 s.1 s.2.1 s.2.2) 0 ([[98, 105, 103], [102, 114, 101, 101], [109, 105, 100], [115, 109, 97, 108, 108]]) (([] : List S_api_Plan), r2.2.L, r2.2.at_) else none
noncomputable def gatemake_Stream_Catalog_P (c : S_api_Catalog) (s : S_gatemake_Stream) : Option (S_api_Catalog × S_gatemake_Stream) :=
  (m_gatemake_Stream_Next s (c.Plans.length : Int)).bind fun (r13 : (Int × S_gatemake_Stream)) => (at? c.Plans r13.1).bind fun (x15 : S_api_Plan) => (m_gatemake_Stream_Next r13.2 6).bind fun (r17 : (Int × S_gatemake_Stream)) => if decide (r17.1 = 0) then ((m_gatemake_Stream_Some r17.2 ([[], [65], [98, 105, 103]])).bind fun (r20 : (Bs × S_gatemake_Stream)) => some ((S_api_Catalog.mk c.Products (c.Plans.set r13.1.toNat (S_api_Plan.mk r20.1 x15.Product x15.Base x15.Free x15.Tiers x15.Limit x15.Trial x15.Asked))), r20.2)) else (if decide (r17.1 = 1) then ((m_gatemake_Stream_Some r17.2 ([[110, 111, 110, 101], []])).bind fun (r20 : (Bs × S_gatemake_Stream)) => some ((S_api_Catalog.mk c.Products (c.Plans.set r13.1.toNat (S_api_Plan.mk x15.Key r20.1 x15.Base x15.Free x15.Tiers x15.Limit x15.Trial x15.Asked))), r20.2)) else (if decide (r17.1 = 2) then ((m_gatemake_Stream_Odd r17.2 0 1000).bind fun (r20 : (Int × S_gatemake_Stream)) => (m_gatemake_Stream_Odd r20.2 0 1000).bind fun (r22 : (Int × S_gatemake_Stream)) => some ((S_api_Catalog.mk c.Products (c.Plans.set r13.1.toNat (S_api_Plan.mk x15.Key x15.Product r20.1 r22.1 x15.Tiers x15.Limit x15.Trial x15.Asked))), r22.2)) else (if decide (r17.1 = 3) then ((m_gatemake_Stream_Odd r17.2 1 100).bind fun (r20 : (Int × S_gatemake_Stream)) => (m_gatemake_Stream_Odd r20.2 0 1000000).bind fun (r22 : (Int × S_gatemake_Stream)) => if x15.Tiers.length + 1 ≤ 1000000000 then some ((S_api_Catalog.mk c.Products (c.Plans.set r13.1.toNat (S_api_Plan.mk x15.Key x15.Product x15.Base x15.Free (x15.Tiers ++ [(S_api_Tier.mk r20.1 r22.1)]) x15.Limit x15.Trial x15.Asked))), r22.2) else none) else (if decide (r17.1 = 4) then ((m_gatemake_Stream_Odd r17.2 (-1) 100).bind fun (r20 : (Int × S_gatemake_Stream)) => (m_gatemake_Stream_Odd r20.2 0 132).bind fun (r22 : (Int × S_gatemake_Stream)) => some ((S_api_Catalog.mk c.Products (c.Plans.set r13.1.toNat (S_api_Plan.mk x15.Key x15.Product x15.Base x15.Free x15.Tiers r20.1 r22.1 x15.Asked))), r22.2)) else ((m_gatemake_Stream_Some r17.2 ([[122, 122], [115, 104, 111, 112], []])).bind fun (r20 : (Bs × S_gatemake_Stream)) => (m_gatemake_Stream_Scopes r20.2).bind fun (r22 : ((List Bs) × S_gatemake_Stream)) => if c.Products.length + 1 ≤ 1000000000 then some ((S_api_Catalog.mk (c.Products ++ [(S_api_Product.mk r20.1 r22.1)]) c.Plans), r22.2) else none)))))
noncomputable def m_gatemake_Stream_Catalog (s1 : S_gatemake_Stream) : Option (S_api_Catalog × S_gatemake_Stream) :=
  (m_gatemake_Stream_RightCatalog s1).bind fun (r2 : (S_api_Catalog × S_gatemake_Stream)) => if decide ((r2.1.Plans.length : Int) > 0) then ((m_gatemake_Stream_Flip r2.2 12).bind fun (r6 : (Bool × S_gatemake_Stream)) => if r6.1 then gatemake_Stream_Catalog_P r2.1 r6.2 else some (r2.1, r6.2)) else some (r2.1, r2.2)
noncomputable def m_gatemake_Stream_RightApps (s1 : S_gatemake_Stream) : Option ((List S_api_App) × S_gatemake_Stream) :=
  (m_gatemake_Stream_Some s1 ([[97, 110, 110], [98, 111, 98]])).bind fun (r2 : (Bs × S_gatemake_Stream)) => (m_gatemake_Stream_Pick r2.2 [1, 2, 3, 3]).bind fun (r4 : (Int × S_gatemake_Stream)) => if (0 : Int) ≤ r4.1 ∧ r4.1 ≤ (([(S_api_App.mk [97, 112, 112, 49] [97, 110, 110]), (S_api_App.mk [97, 112, 112, 50] r2.1), (S_api_App.mk [97, 112, 112, 51] [98, 111, 98])] : (List S_api_App)).length : Int) then (some ((([(S_api_App.mk [97, 112, 112, 49] [97, 110, 110]), (S_api_App.mk [97, 112, 112, 50] r2.1), (S_api_App.mk [97, 112, 112, 51] [98, 111, 98])] : (List S_api_App)).take r4.1.toNat), r4.2)) else none
noncomputable def gatemake_Stream_Apps_J1 (out12 : (List S_api_App)) (c13 : (List Int)) (c14 : Int) : Option ((List S_api_App) × S_gatemake_Stream) :=
  some (out12, (S_gatemake_Stream.mk c13 c14))
noncomputable def m_gatemake_Stream_Apps (s1 : S_gatemake_Stream) : Option ((List S_api_App) × S_gatemake_Stream) :=
  (m_gatemake_Stream_RightApps s1).bind fun (r2 : ((List S_api_App) × S_gatemake_Stream)) => (m_gatemake_Stream_Flip r2.2 20).bind fun (r4 : (Bool × S_gatemake_Stream)) => if r4.1 then ((m_gatemake_Stream_Some r4.2 ([[], [97, 112, 112, 49], [122, 122]])).bind fun (r7 : (Bs × S_gatemake_Stream)) => (m_gatemake_Stream_Some r7.2 ([[97, 110, 110], []])).bind fun (r9 : (Bs × S_gatemake_Stream)) => if r2.1.length + 1 ≤ 1000000000 then (gatemake_Stream_Apps_J1 (r2.1 ++ [(S_api_App.mk r7.1 r9.1)]) r9.2.L r9.2.at_) else none) else (gatemake_Stream_Apps_J1 r2.1 r4.2.L r4.2.at_)
noncomputable def slices_insertionSortCmpFunc_api_Event__J2 (i4 : Int) (data28 : (List S_api_Event)) : Option ((Int × (List S_api_Event)) ⊕ ((List S_api_Event))) :=
  some (.inl (wr (i4 + 1), data28))
noncomputable def slices_insertionSortCmpFunc_api_Event__J4 (i4 : Int) (j8 : Int) (l9 : (List S_api_Event)) (v20 : Bool) : Option ((Int × (List S_api_Event)) ⊕ ((Int × (List S_api_Event)) ⊕ ((List S_api_Event)))) :=
  if v20 then ((at? l9 (wr (j8 - 1))).bind fun (x22 : S_api_Event) => (at? l9 j8).bind fun (x24 : S_api_Event) => (at? (l9.set j8.toNat x22) (wr (j8 - 1))).bind fun (x26 : S_api_Event) => some (.inl (wr (j8 - 1), ((l9.set j8.toNat x22).set ((wr (j8 - 1)).toNat) x24)))) else (Option.map .inr (slices_insertionSortCmpFunc_api_Event__J2 i4 l9))
noncomputable def slices_insertionSortCmpFunc_api_Event__L3 (a2 : Int) (p3 : S_api_Event → S_api_Event → Option (Int)) (i4 : Int) (j8 : Int) (l9 : (List S_api_Event)) : Option ((Int × (List S_api_Event)) ⊕ ((Int × (List S_api_Event)) ⊕ ((List S_api_Event)))) :=
  if decide (a2 < j8) then ((at? l9 j8).bind fun (x13 : S_api_Event) => (at? l9 (wr (j8 - 1))).bind fun (x15 : S_api_Event) => (p3 x13 x15).bind fun (r17 : Int) => slices_insertionSortCmpFunc_api_Event__J4 i4 j8 l9 (decide (r17 < 0))) else (slices_insertionSortCmpFunc_api_Event__J4 i4 j8 l9 false)
noncomputable def slices_insertionSortCmpFunc_api_Event__L1 (a2 : Int) (b3 : Int) (p3 : S_api_Event → S_api_Event → Option (Int)) (i4 : Int) (l5 : (List S_api_Event)) : Option ((Int × (List S_api_Event)) ⊕ ((List S_api_Event))) :=
  if decide (i4 < b3) then (iter (fun (s : Int × (List S_api_Event)) => slices_insertionSortCmpFunc_api_Event__L3 a2 p3 i4 s.1 s.2) (i4, l5)) else (some (.inr l5))
noncomputable def m_slices_insertionSortCmpFunc_api_Event_ (data1 : (List S_api_Event)) (a2 : Int) (b3 : Int) (p3 : S_api_Event → S_api_Event → Option (Int)) : Option ((List S_api_Event)) :=
  iter (fun (s : Int × (List S_api_Event)) => slices_insertionSortCmpFunc_api_Event__L1 a2 b3 p3 s.1 s.2) (wr (a2 + 1), data1)
noncomputable def slices_stableCmpFunc_api_Event__J6 (blockSize16 : Int) : Option (Int ⊕ ((List S_api_Event))) :=
  some (.inl (wr (blockSize16 * 2)))
noncomputable def slices_stableCmpFunc_api_Event__J4 (n2 : Int) (blockSize16 : Int) (a23 : Int) : Option (Int ⊕ ((List S_api_Event))) :=
  if decide ((wr (a23 + blockSize16)) < n2) then none else (slices_stableCmpFunc_api_Event__J6 blockSize16)
noncomputable def slices_stableCmpFunc_api_Event__L5 (n2 : Int) (blockSize16 : Int) (a19 : Int) (b20 : Int) : Option ((Int × Int) ⊕ (Int ⊕ ((List S_api_Event)))) :=
  if decide (b20 ≤ n2) then none else (Option.map .inr (slices_stableCmpFunc_api_Event__J4 n2 blockSize16 a19))
noncomputable def slices_stableCmpFunc_api_Event__L3 (n2 : Int) (r13 : ((List S_api_Event))) (blockSize16 : Int) : Option (Int ⊕ ((List S_api_Event))) :=
  if decide (blockSize16 < n2) then (iter (fun (s : Int × Int) => slices_stableCmpFunc_api_Event__L5 n2 blockSize16 s.1 s.2) (0, wr (2 * blockSize16))) else (some (.inr r13))
noncomputable def slices_stableCmpFunc_api_Event__J1 (n2 : Int) (p2 : S_api_Event → S_api_Event → Option (Int)) (a11 : Int) (data12 : (List S_api_Event)) : Option ((List S_api_Event)) :=
  (m_slices_insertionSortCmpFunc_api_Event_ data12 a11 n2 p2).bind fun (r13 : ((List S_api_Event))) => if r13.length = data12.length then (iter (fun (s : Int) => slices_stableCmpFunc_api_Event__L3 n2 r13 s) 20) else none
noncomputable def slices_stableCmpFunc_api_Event__L2 (n2 : Int) (p2 : S_api_Event → S_api_Event → Option (Int)) (a3 : Int) (b4 : Int) (l5 : (List S_api_Event)) : Option ((Int × Int × (List S_api_Event)) ⊕ ((List S_api_Event))) :=
  if decide (b4 ≤ n2) then ((m_slices_insertionSortCmpFunc_api_Event_ l5 a3 b4 p2).bind fun (r8 : ((List S_api_Event))) => if r8.length = l5.length then (some (.inl (b4, wr (b4 + 20), r8))) else none) else (Option.map .inr (slices_stableCmpFunc_api_Event__J1 n2 p2 a3 l5))
noncomputable def m_slices_stableCmpFunc_api_Event_ (data1 : (List S_api_Event)) (n2 : Int) (p2 : S_api_Event → S_api_Event → Option (Int)) : Option ((List S_api_Event)) :=
  iter (fun (s : Int × Int × (List S_api_Event)) => slices_stableCmpFunc_api_Event__L2 n2 p2 s.1 s.2.1 s.2.2) (0, 20, data1)
noncomputable def m_slices_SortStableFunc_L_api_Event_api_Event_ (x1 : (List S_api_Event)) (p1 : S_api_Event → S_api_Event → Option (Int)) : Option ((List S_api_Event)) :=
  (m_slices_stableCmpFunc_api_Event_ x1 (x1.length : Int) p1).bind fun (r2 : ((List S_api_Event))) => if r2.length = x1.length then some r2 else none
noncomputable def m_gateref2_sign (n1 : Int) : Option (Int) :=
  if decide (n1 < 0) then (some (-1)) else (if decide (0 < n1) then some 1 else some 0)
noncomputable def m_cmp_isNaN_string_ (x1 : Bs) : Option (Bool) :=
  some (decide (x1 ≠ x1))
noncomputable def m_cmp_Compare_string_ (x1 : Bs) (y2 : Bs) : Option (Int) :=
  (m_cmp_isNaN_string_ x1).bind fun (r3 : (Bool)) => (m_cmp_isNaN_string_ y2).bind fun (r5 : (Bool)) => if r3 then (if r5 then some 0 else (some (-1))) else (if r5 then some 1 else (if Op.bytesLess x1 y2 then (some (-1)) else (if (!(Op.bytesLess x1 y2 || x1 == y2)) then some 1 else some 0)))
noncomputable def slices_Compare_L_string_string__L1 (s2 : (List Bs)) (k3 : Nat) (x6 : Bs) : Option (Unit ⊕ (Int)) :=
  if decide ((s2.length : Int) ≤ (k3 : Int)) then (some (.inr 1)) else ((s2[k3]?).bind fun (x11 : Bs) => (m_cmp_Compare_string_ x6 x11).bind fun (r13 : (Int)) => if decide (r13 ≠ 0) then (some (.inr r13)) else (some (.inl ())))
noncomputable def slices_Compare_L_string_string__E1 (s1 : (List Bs)) (s2 : (List Bs)) : Option (Int) :=
  if decide ((s1.length : Int) < (s2.length : Int)) then (some (-1)) else some 0
noncomputable def m_slices_Compare_L_string_string_ (s1 : (List Bs)) (s2 : (List Bs)) : Option (Int) :=
  if s1.length ≤ 1000000000 then forL (fun (k : Nat) (x : Bs) (s : Unit) => slices_Compare_L_string_string__L1 s2 k x) (fun (s : Unit) => slices_Compare_L_string_string__E1 s1 s2) 0 s1 () else none
noncomputable def m_gateref2_EventOrder (a1 : S_api_Event) (b2 : S_api_Event) : Option (Int) :=
  if decide (a1.At ≠ b2.At) then ((m_gateref2_sign (wr (a1.At - b2.At))).bind fun (r4 : (Int)) => some r4) else ((m_slices_Compare_L_string_string_ [a1.App, a1.Product] [b2.App, b2.Product]).bind fun (r6 : (Int)) => some r6)
noncomputable def slices_CompactFunc_L_api_Event_api_Event__J5 (v15 : Int) (v28 : Int) (v29 : (List S_api_Event)) : Option ((Int × Int × (List S_api_Event)) ⊕ (Int ⊕ ((List S_api_Event)))) :=
  some (.inl (v28, wr (v15 + 1), v29))
noncomputable def slices_CompactFunc_L_api_Event_api_Event__J3 (v30 : Int) (v31 : (List S_api_Event)) : Option (Int ⊕ ((List S_api_Event))) :=
  if (0 : Int) ≤ v30 ∧ v30 < (v31.length : Int) then (if (0 : Int) ≤ v30 ∧ v30 ≤ ((v31.take v30.toNat ++ List.replicate (v31.length - v30.toNat) (S_api_Event.mk 0 [] [] 0 [])).length : Int) then (some (.inr ((v31.take v30.toNat ++ List.replicate (v31.length - v30.toNat) (S_api_Event.mk 0 [] [] 0 [])).take v30.toNat))) else none) else none
noncomputable def slices_CompactFunc_L_api_Event_api_Event__L4 (p1 : S_api_Event → S_api_Event → Option (Bool)) (v3 : Int) (v14 : Int) (v15 : Int) (l16 : (List S_api_Event)) : Option ((Int × Int × (List S_api_Event)) ⊕ (Int ⊕ ((List S_api_Event)))) :=
  if decide (v15 < ((l16.drop v3.toNat).length : Int)) then ((at? (l16.drop v3.toNat) v15).bind fun (x19 : S_api_Event) => (at? (l16.drop v3.toNat) (wr (v15 - 1))).bind fun (x21 : S_api_Event) => (p1 x19 x21).bind fun (r23 : Bool) => if !r23 then ((at? l16 v14).bind fun (x26 : S_api_Event) => slices_CompactFunc_L_api_Event_api_Event__J5 v15 (wr (v14 + 1)) (l16.set v14.toNat x19)) else (slices_CompactFunc_L_api_Event_api_Event__J5 v15 v14 l16)) else (Option.map .inr (slices_CompactFunc_L_api_Event_api_Event__J3 v14 l16))
noncomputable def slices_CompactFunc_L_api_Event_api_Event__J1 (v1 : (List S_api_Event)) : Option ((List S_api_Event)) :=
  some v1
noncomputable def slices_CompactFunc_L_api_Event_api_Event__L2 (v1 : (List S_api_Event)) (p1 : S_api_Event → S_api_Event → Option (Bool)) (v3 : Int) : Option (Int ⊕ ((List S_api_Event))) :=
  if decide (v3 < (v1.length : Int)) then ((at? v1 v3).bind fun (x6 : S_api_Event) => (at? v1 (wr (v3 - 1))).bind fun (x8 : S_api_Event) => (p1 x6 x8).bind fun (r10 : Bool) => if r10 then (if (0 : Int) ≤ v3 ∧ v3 < (v1.length : Int) then (iter (fun (s : Int × Int × (List S_api_Event)) => slices_CompactFunc_L_api_Event_api_Event__L4 p1 v3 s.1 s.2.1 s.2.2) (v3, 1, v1)) else none) else (some (.inl (wr (v3 + 1))))) else (Option.map .inr (slices_CompactFunc_L_api_Event_api_Event__J1 v1))
noncomputable def m_slices_CompactFunc_L_api_Event_api_Event_ (v1 : (List S_api_Event)) (p1 : S_api_Event → S_api_Event → Option (Bool)) : Option ((List S_api_Event)) :=
  if decide ((v1.length : Int) < 2) then some v1 else (iter (fun (s : Int) => slices_CompactFunc_L_api_Event_api_Event__L2 v1 p1 s) 1)
noncomputable def m_gatemake_Stream_Events_1 (a1 : S_api_Event) (b2 : S_api_Event) : Option (Bool) :=
  (m_gateref2_EventOrder a1 b2).bind fun (r3 : (Int)) => some (decide (r3 = 0))
noncomputable def m_gateref2_in (n1 : Int) (low2 : Int) (high3 : Int) : Option (Bool) :=
  some ((decide (low2 ≤ n1)) && (decide (n1 ≤ high3)))
noncomputable def gateref2_only_L1 (some2 : Bs) (k3 : Nat) (x6 : UInt8) : Option (Unit ⊕ (Bool)) :=
  (m_strings_IndexByte some2 (x6.toNat : Int)).bind fun (r9 : (Int)) => if decide (r9 < 0) then (some (.inr false)) else (some (.inl ()))
noncomputable def gateref2_only_E1 : Option (Bool) :=
  some true
noncomputable def m_gateref2_only (s1 : Bs) (some2 : Bs) : Option (Bool) :=
  if s1.length ≤ 1000000000 then forL (fun (k : Nat) (x : UInt8) (s : Unit) => gateref2_only_L1 some2 k x) (fun (s : Unit) => gateref2_only_E1) 0 s1 () else none
noncomputable def gateref2_Key_J1 (v16 : Bool) : Option (Bool) :=
  some v16
noncomputable def m_gateref2_Key (s1 : Bs) : Option (Bool) :=
  (m_gateref2_in (s1.length : Int) 1 40).bind fun (r2 : (Bool)) => if r2 then ((sub? s1 0 1).bind fun (l6 : Bs) => (m_gateref2_only l6 [97, 98, 99, 100, 101, 102, 103, 104, 105, 106, 107, 108, 109, 110, 111, 112, 113, 114, 115, 116, 117, 118, 119, 120, 121, 122]).bind fun (r8 : (Bool)) => if r8 then ((m_gateref2_only s1 [97, 98, 99, 100, 101, 102, 103, 104, 105, 106, 107, 108, 109, 110, 111, 112, 113, 114, 115, 116, 117, 118, 119, 120, 121, 122, 48, 49, 50, 51, 52, 53, 54, 55, 56, 57, 45, 95]).bind fun (r12 : (Bool)) => gateref2_Key_J1 r12) else (gateref2_Key_J1 false)) else (gateref2_Key_J1 false)
noncomputable def slices_IndexFunc_L_api_Product_api_Product__L1 (p1 : S_api_Product → Option (Bool)) (k2 : Nat) (x5 : S_api_Product) : Option (Unit ⊕ (Int)) :=
  (p1 x5).bind fun (r8 : Bool) => if r8 then (some (.inr (k2 : Int))) else (some (.inl ()))
noncomputable def slices_IndexFunc_L_api_Product_api_Product__E1 : Option (Int) :=
  some (-1)
noncomputable def m_slices_IndexFunc_L_api_Product_api_Product_ (s1 : (List S_api_Product)) (p1 : S_api_Product → Option (Bool)) : Option (Int) :=
  if s1.length ≤ 1000000000 then forL (fun (k : Nat) (x : S_api_Product) (s : Unit) => slices_IndexFunc_L_api_Product_api_Product__L1 p1 k x) (fun (s : Unit) => slices_IndexFunc_L_api_Product_api_Product__E1) 0 s1 () else none
noncomputable def m_gateref2_ProductAt_1 (p1 : S_api_Product) (c2 : Bs) : Option (Bool) :=
  some (decide (p1.Key = c2))
noncomputable def m_gateref2_ProductAt (c1 : S_api_Catalog) (key2 : Bs) : Option (Int) :=
  (m_slices_IndexFunc_L_api_Product_api_Product_ c1.Products (fun (a0 : S_api_Product) => m_gateref2_ProductAt_1 a0 key2)).bind fun (r3 : (Int)) => some r3
noncomputable def gateref2_planFault_J4 (v34 : Bool) : Option (Int) :=
  if v34 then some 1 else some 0
noncomputable def gateref2_planFault_J3 (v2 : S_api_Plan) (v25 : Bool) : Option (Int) :=
  if v25 then some 3 else ((m_gateref2_in v2.Limit (-1) 1000000000000).bind fun (r27 : (Bool)) => if !r27 then (gateref2_planFault_J4 true) else ((m_gateref2_in v2.Trial 0 132).bind fun (r31 : (Bool)) => gateref2_planFault_J4 (!r31)))
noncomputable def gateref2_planFault_J6 (v52 : Bool) : Option (Unit ⊕ (Int)) :=
  if v52 then (some (.inr 7)) else (some (.inl ()))
noncomputable def gateref2_planFault_J5 (v2 : S_api_Plan) (k16 : Nat) (x19 : S_api_Tier) (v45 : Bool) : Option (Unit ⊕ (Int)) :=
  if v45 then (some (.inr 1)) else (if decide (0 < (k16 : Int)) then ((at? v2.Tiers ((k16 : Int) - 1)).bind fun (x49 : S_api_Tier) => gateref2_planFault_J6 (decide (x19.From ≤ x49.From))) else (gateref2_planFault_J6 false))
noncomputable def gateref2_planFault_L2 (v2 : S_api_Plan) (k16 : Nat) (x19 : S_api_Tier) : Option (Unit ⊕ (Int)) :=
  (m_gateref2_in x19.From 1 1000000000000).bind fun (r38 : (Bool)) => if !r38 then (gateref2_planFault_J5 v2 k16 x19 true) else ((m_gateref2_in x19.Cents 0 1000000).bind fun (r42 : (Bool)) => gateref2_planFault_J5 v2 k16 x19 (!r42))
noncomputable def gateref2_planFault_E2 (v2 : S_api_Plan) : Option (Int) :=
  if decide (0 < (v2.Tiers.length : Int)) then ((v2.Tiers[0]?).bind fun (x22 : S_api_Tier) => gateref2_planFault_J3 v2 (decide (x22.From ≠ 1))) else (gateref2_planFault_J3 v2 false)
noncomputable def gateref2_planFault_J1 (v2 : S_api_Plan) (v13 : Bool) : Option (Int) :=
  if v13 then some 1 else (if decide (20 < (v2.Tiers.length : Int)) then some 2 else (if v2.Tiers.length ≤ 1000000000 then forL (fun (k : Nat) (x : S_api_Tier) (s : Unit) => gateref2_planFault_L2 v2 k x) (fun (s : Unit) => gateref2_planFault_E2 v2) 0 v2.Tiers () else none))
noncomputable def m_gateref2_planFault (v1 : S_api_Catalog) (v2 : S_api_Plan) : Option (Int) :=
  (m_gateref2_ProductAt v1 v2.Product).bind fun (r3 : (Int)) => if decide (r3 < 0) then some 8 else ((m_gateref2_in v2.Base 0 1000000000000).bind fun (r6 : (Bool)) => if !r6 then (gateref2_planFault_J1 v2 true) else ((m_gateref2_in v2.Free 0 1000000000000).bind fun (r10 : (Bool)) => gateref2_planFault_J1 v2 (!r10)))
noncomputable def gateref2_scope_L1 (r2 : ((List Bs))) (k4 : Nat) (x7 : Bs) : Option (Unit ⊕ (Bool)) :=
  (m_gateref2_Key x7).bind fun (r10 : (Bool)) => if ((!r10) && ((decide (x7 ≠ [42])) || (decide ((k4 : Int) < (wr ((r2.length : Int) - 1)))))) then (some (.inr false)) else (some (.inl ()))
noncomputable def gateref2_scope_E1 (r2 : ((List Bs))) : Option (Bool) :=
  some (decide ((r2.length : Int) ≤ 10))
noncomputable def m_gateref2_scope (s1 : Bs) : Option (Bool) :=
  (m_strings_Split s1 [58]).bind fun (r2 : ((List Bs))) => if r2.length ≤ 1000000000 then forL (fun (k : Nat) (x : Bs) (s : Unit) => gateref2_scope_L1 r2 k x) (fun (s : Unit) => gateref2_scope_E1 r2) 0 r2 () else none
noncomputable def gateref2_ScopesFault_L1 (k3 : Nat) (x6 : Bs) : Option (Unit ⊕ (Int)) :=
  (m_gateref2_scope x6).bind fun (r9 : (Bool)) => if !r9 then (some (.inr 3)) else (some (.inl ()))
noncomputable def gateref2_ScopesFault_E1 : Option (Int) :=
  some 0
noncomputable def m_gateref2_ScopesFault (l1 : (List Bs)) : Option (Int) :=
  if decide (50 < (l1.length : Int)) then some 2 else (if l1.length ≤ 1000000000 then forL (fun (k : Nat) (x : Bs) (s : Unit) => gateref2_ScopesFault_L1 k x) (fun (s : Unit) => gateref2_ScopesFault_E1) 0 l1 () else none)
noncomputable def gateref2_CatalogFault_L2 (v1 : S_api_Catalog) (k10 : Nat) (x13 : S_api_Plan) (v9 : Bs) : Option (Bs ⊕ (Int)) :=
  (m_gateref2_Key x13.Key).bind fun (r16 : (Bool)) => if !r16 then (some (.inr 5)) else (if (Op.bytesLess x13.Key v9 || x13.Key == v9) then (some (.inr 7)) else ((m_gateref2_planFault v1 x13).bind fun (r20 : (Int)) => if decide (r20 ≠ 0) then (some (.inr r20)) else (some (.inl x13.Key))))
noncomputable def gateref2_CatalogFault_E2 (v9 : Bs) : Option (Int) :=
  some 0
noncomputable def gateref2_CatalogFault_L1 (k4 : Nat) (x7 : S_api_Product) (v3 : Bs) : Option (Bs ⊕ (Int)) :=
  (m_gateref2_Key x7.Key).bind fun (r25 : (Bool)) => if !r25 then (some (.inr 5)) else (if (Op.bytesLess x7.Key v3 || x7.Key == v3) then (some (.inr 7)) else ((m_gateref2_ScopesFault x7.Scopes).bind fun (r29 : (Int)) => if decide (r29 ≠ 0) then (some (.inr r29)) else (some (.inl x7.Key))))
noncomputable def gateref2_CatalogFault_E1 (v1 : S_api_Catalog) (v3 : Bs) : Option (Int) :=
  if decide (100 < (v1.Plans.length : Int)) then some 2 else (if v1.Plans.length ≤ 1000000000 then forL (fun (k : Nat) (x : S_api_Plan) (s : Bs) => gateref2_CatalogFault_L2 v1 k x s) (fun (s : Bs) => gateref2_CatalogFault_E2 s) 0 v1.Plans [] else none)
noncomputable def m_gateref2_CatalogFault (v1 : S_api_Catalog) : Option (Int) :=
  if decide (100 < (v1.Products.length : Int)) then some 2 else (if v1.Products.length ≤ 1000000000 then forL (fun (k : Nat) (x : S_api_Product) (s : Bs) => gateref2_CatalogFault_L1 k x s) (fun (s : Bs) => gateref2_CatalogFault_E1 v1 s) 0 v1.Products [] else none)
noncomputable def m_gateref2_none  : Option (S_api_Sub) :=
  some (S_api_Sub.mk 0 [] 0 (-1))
noncomputable def slices_IndexFunc_L_api_Plan_api_Plan__L1 (p1 : S_api_Plan → Option (Bool)) (k2 : Nat) (x5 : S_api_Plan) : Option (Unit ⊕ (Int)) :=
  (p1 x5).bind fun (r8 : Bool) => if r8 then (some (.inr (k2 : Int))) else (some (.inl ()))
noncomputable def slices_IndexFunc_L_api_Plan_api_Plan__E1 : Option (Int) :=
  some (-1)
noncomputable def m_slices_IndexFunc_L_api_Plan_api_Plan_ (s1 : (List S_api_Plan)) (p1 : S_api_Plan → Option (Bool)) : Option (Int) :=
  if s1.length ≤ 1000000000 then forL (fun (k : Nat) (x : S_api_Plan) (s : Unit) => slices_IndexFunc_L_api_Plan_api_Plan__L1 p1 k x) (fun (s : Unit) => slices_IndexFunc_L_api_Plan_api_Plan__E1) 0 s1 () else none
noncomputable def m_gateref2_PlanAt_1 (p1 : S_api_Plan) (c2 : Bs) : Option (Bool) :=
  some (decide (p1.Key = c2))
noncomputable def m_gateref2_PlanAt (c1 : S_api_Catalog) (key2 : Bs) : Option (Int) :=
  (m_slices_IndexFunc_L_api_Plan_api_Plan_ c1.Plans (fun (a0 : S_api_Plan) => m_gateref2_PlanAt_1 a0 key2)).bind fun (r3 : (Int)) => some r3
noncomputable def gateref2_after_J2 (v3 : S_api_Event) (c38 : Int) (c39 : Bs) (c40 : Int) : Option (S_api_Sub × Bool) :=
  some ((S_api_Sub.mk c38 c39 v3.At c40), true)
noncomputable def gateref2_after_J3 (v2 : S_api_Sub) (v3 : S_api_Event) (v25 : Bool) : Option (S_api_Sub × Bool) :=
  if v25 then (some (v2, false)) else (gateref2_after_J2 v3 v2.State v3.Plan v2.First)
noncomputable def gateref2_after_J4 (v2 : S_api_Sub) (v3 : S_api_Event) (v36 : Bool) : Option (S_api_Sub × Bool) :=
  if v36 then (gateref2_after_J2 v3 4 v2.Plan v2.First) else (some (v2, false))
noncomputable def gateref2_after_J1 (v1 : S_api_Catalog) (v2 : S_api_Sub) (v3 : S_api_Event) (v9 : Bool) : Option (S_api_Sub × Bool) :=
  if v9 then (some (v2, false)) else (if ((decide (v3.Kind = 1)) && ((decide (v2.State = 0)) || (decide (v2.State = 4)))) then ((m_gateref2_PlanAt v1 v3.Plan).bind fun (r12 : (Int)) => (at? v1.Plans r12).bind fun (x14 : S_api_Plan) => if !x14.Asked then (gateref2_after_J2 v3 2 v3.Plan v3.At) else (gateref2_after_J2 v3 1 v3.Plan (-1))) else (if ((decide (v3.Kind = 1)) && ((decide (v2.State = 2)) || (decide (v2.State = 3)))) then (if decide (v3.Plan = v2.Plan) then (gateref2_after_J3 v2 v3 true) else ((m_gateref2_PlanAt v1 v3.Plan).bind fun (r20 : (Int)) => (at? v1.Plans r20).bind fun (x22 : S_api_Plan) => gateref2_after_J3 v2 v3 x22.Asked)) else (if ((decide (v3.Kind = 2)) && (decide (v2.State = 1))) then (gateref2_after_J2 v3 2 v2.Plan v3.At) else (if ((decide (v3.Kind = 3)) && (decide (v2.State = 1))) then (gateref2_after_J2 v3 4 v2.Plan v2.First) else (if ((decide (v3.Kind = 4)) && (decide (v2.State = 2))) then (gateref2_after_J2 v3 3 v2.Plan v2.First) else (if ((decide (v3.Kind = 5)) && (decide (v2.State = 3))) then (gateref2_after_J2 v3 2 v2.Plan v2.First) else (if decide (v3.Kind = 6) then ((m_gateref2_in v2.State 1 3).bind fun (r33 : (Bool)) => gateref2_after_J4 v2 v3 r33) else (gateref2_after_J4 v2 v3 false))))))))
noncomputable def m_gateref2_after (v1 : S_api_Catalog) (v2 : S_api_Sub) (v3 : S_api_Event) : Option (S_api_Sub × Bool) :=
  if decide (v3.Kind = 1) then ((m_gateref2_PlanAt v1 v3.Plan).bind fun (r6 : (Int)) => gateref2_after_J1 v1 v2 v3 (decide (r6 < 0))) else (gateref2_after_J1 v1 v2 v3 false)
noncomputable def gateref2_Stages_J2 (out23 : (List S_api_Sub)) (refused24 : (List Int)) : Option (((List S_api_Sub) × (List Int)) ⊕ ((List S_api_Sub) × (List Int))) :=
  some (.inl (out23, refused24))
noncomputable def gateref2_Stages_L1 (c1 : S_api_Catalog) (app3 : Bs) (product4 : Bs) (k9 : Nat) (x12 : S_api_Event) (l7 : (List S_api_Sub)) (l8 : (List Int)) : Option (((List S_api_Sub) × (List Int)) ⊕ ((List S_api_Sub) × (List Int))) :=
  if ((decide (x12.App ≠ app3)) || (decide (x12.Product ≠ product4))) then (gateref2_Stages_J2 l7 l8) else ((at? l7 (wr ((l7.length : Int) - 1))).bind fun (x16 : S_api_Sub) => (m_gateref2_after c1 x16 x12).bind fun (r18 : (S_api_Sub × Bool)) => if r18.2 then (if l7.length + 1 ≤ 1000000000 then (gateref2_Stages_J2 (l7 ++ [r18.1]) l8) else none) else (if l8.length + 1 ≤ 1000000000 then (gateref2_Stages_J2 l7 (l8 ++ [(k9 : Int)])) else none))
noncomputable def gateref2_Stages_E1 (l7 : (List S_api_Sub)) (l8 : (List Int)) : Option ((List S_api_Sub) × (List Int)) :=
  some (l7, l8)
noncomputable def m_gateref2_Stages (c1 : S_api_Catalog) (l2 : (List S_api_Event)) (app3 : Bs) (product4 : Bs) : Option ((List S_api_Sub) × (List Int)) :=
  (m_gateref2_none ).bind fun (r5 : (S_api_Sub)) => if l2.length ≤ 1000000000 then forL (fun (k : Nat) (x : S_api_Event) (s : (List S_api_Sub) × (List Int)) => gateref2_Stages_L1 c1 app3 product4 k x s.1 s.2) (fun (s : (List S_api_Sub) × (List Int)) => gateref2_Stages_E1 s.1 s.2) 0 l2 (([r5] : (List S_api_Sub)), []) else none
noncomputable def m_gatemake_Stream_AppKey (s1 : S_gatemake_Stream) : Option (Bs × S_gatemake_Stream) :=
  (m_gatemake_Stream_Some s1 ([[97, 112, 112, 49], [97, 112, 112, 49], [97, 112, 112, 49], [97, 112, 112, 50], [97, 112, 112, 51], [110, 111, 110, 101]])).bind fun (r2 : (Bs × S_gatemake_Stream)) => some (r2.1, r2.2)
noncomputable def m_gatemake_Stream_ProductKey (s1 : S_gatemake_Stream) : Option (Bs × S_gatemake_Stream) :=
  (m_gatemake_Stream_Some s1 ([[115, 104, 111, 112], [115, 104, 111, 112], [115, 104, 111, 112], [109, 97, 112, 115], [110, 111, 110, 101]])).bind fun (r2 : (Bs × S_gatemake_Stream)) => some (r2.1, r2.2)
noncomputable def gateref2_Stages_v1_J2 (out23 : (List S_api_Sub)) (refused24 : (List Int)) : Option (((List S_api_Sub) × (List Int)) ⊕ ((List S_api_Sub) × (List Int))) :=
  some (.inl (out23, refused24))
noncomputable def gateref2_Stages_v1_L1 (c1 : S_api_Catalog) (app3 : Bs) (product4 : Bs) (k9 : Nat) (x12 : S_api_Event) (l7 : (List S_api_Sub)) (l8 : (List Int)) : Option (((List S_api_Sub) × (List Int)) ⊕ ((List S_api_Sub) × (List Int))) :=
  if ((decide (x12.App ≠ app3)) || (decide (x12.Product ≠ product4))) then (gateref2_Stages_v1_J2 l7 l8) else ((at? l7 (wr ((l7.length : Int) - 1))).bind fun (x16 : S_api_Sub) => (m_gateref2_after c1 x16 x12).bind fun (r18 : (S_api_Sub × Bool)) => if r18.2 then (if l7.length + 1 ≤ 1000000000 then (gateref2_Stages_v1_J2 (l7 ++ [r18.1]) l8) else none) else (if l8.length + 1 ≤ 1000000000 then (gateref2_Stages_v1_J2 l7 (l8 ++ [(k9 : Int)])) else none))
noncomputable def gateref2_Stages_v1_E1 (l7 : (List S_api_Sub)) (l8 : (List Int)) : Option ((List S_api_Sub) × (List Int)) :=
  some (l7, l8)
noncomputable def m_gateref2_Stages_v1 (c1 : S_api_Catalog) (l2 : (List S_api_Event)) (app3 : Bs) (product4 : Bs) : Option ((List S_api_Sub) × (List Int)) :=
  (m_gateref2_none ).bind fun (r5 : (S_api_Sub)) => if l2.length ≤ 1000000000 then forL (fun (k : Nat) (x : S_api_Event) (s : (List S_api_Sub) × (List Int)) => gateref2_Stages_v1_L1 c1 app3 product4 k x s.1 s.2) (fun (s : (List S_api_Sub) × (List Int)) => gateref2_Stages_v1_E1 s.1 s.2) 0 l2 (([r5] : (List S_api_Sub)), []) else none
noncomputable def gatemake_Stream_Events_J10 (v117 : (List Bs)) : Option ((List Bs) ⊕ ((Int × (List Int) × Int × (List S_api_Event)) ⊕ ((List S_api_Event) × S_gatemake_Stream))) :=
  some (.inl v117)
noncomputable def gatemake_Stream_Events_L5 (r25 : (Bs × S_gatemake_Stream)) (k46 : Nat) (x49 : S_api_Plan) (l45 : (List Bs)) : Option ((List Bs) ⊕ ((Int × (List Int) × Int × (List S_api_Event)) ⊕ ((List S_api_Event) × S_gatemake_Stream))) :=
  if decide (x49.Product = r25.1) then (if l45.length + 1 ≤ 1000000000 then (gatemake_Stream_Events_J10 (l45 ++ [x49.Key])) else none) else (gatemake_Stream_Events_J10 l45)
noncomputable def gatemake_Stream_Events_J2 (v118 : Int) (v119 : (List S_api_Event)) (c120 : (List Int)) (c121 : Int) : Option ((Int × (List Int) × Int × (List S_api_Event)) ⊕ ((List S_api_Event) × S_gatemake_Stream)) :=
  some (.inl (v118, c120, c121, v119))
noncomputable def gatemake_Stream_Events_J9 (v5 : Int) (l8 : (List S_api_Event)) (r21 : (Int × S_gatemake_Stream)) (c105 : (List Int)) (c106 : Int) (c107 : Int) (c108 : Bs) (c109 : Bs) (c110 : Int) (c111 : Bs) : Option ((Int × (List Int) × Int × (List S_api_Event)) ⊕ ((List S_api_Event) × S_gatemake_Stream)) :=
  if l8.length + 1 ≤ 1000000000 then (gatemake_Stream_Events_J2 (wr (v5 + r21.1)) (l8 ++ [(S_api_Event.mk c107 c108 c109 c110 c111)]) c105 c106) else none
noncomputable def gatemake_Stream_Events_J8 (v5 : Int) (l8 : (List S_api_Event)) (r21 : (Int × S_gatemake_Stream)) (r25 : (Bs × S_gatemake_Stream)) (c44 : Bs) (c76 : Int) (c83 : (List Int)) (c84 : Int) (c85 : Bs) : Option ((Int × (List Int) × Int × (List S_api_Event)) ⊕ ((List S_api_Event) × S_gatemake_Stream)) :=
  (m_gatemake_Stream_Flip (S_gatemake_Stream.mk c83 c84) 60).bind fun (r86 : (Bool × S_gatemake_Stream)) => if r86.1 then ((m_gatemake_Stream_Next r86.2 5).bind fun (r89 : (Int × S_gatemake_Stream)) => if decide (r89.1 = 0) then ((m_gatemake_Stream_AppKey r89.2).bind fun (r92 : (Bs × S_gatemake_Stream)) => gatemake_Stream_Events_J9 v5 l8 r21 r92.2.L r92.2.at_ (wr (v5 + r21.1)) r92.1 r25.1 c76 c85) else (if decide (r89.1 = 1) then ((m_gatemake_Stream_ProductKey r89.2).bind fun (r95 : (Bs × S_gatemake_Stream)) => gatemake_Stream_Events_J9 v5 l8 r21 r95.2.L r95.2.at_ (wr (v5 + r21.1)) c44 r95.1 c76 c85) else (if decide (r89.1 = 2) then ((m_gatemake_Stream_Odd r89.2 1 6).bind fun (r98 : (Int × S_gatemake_Stream)) => gatemake_Stream_Events_J9 v5 l8 r21 r98.2.L r98.2.at_ (wr (v5 + r21.1)) c44 r25.1 r98.1 c85) else (if decide (r89.1 = 3) then ((m_gatemake_Stream_Some r89.2 ([[98, 105, 103], [110, 111, 110, 101], []])).bind fun (r101 : (Bs × S_gatemake_Stream)) => gatemake_Stream_Events_J9 v5 l8 r21 r101.2.L r101.2.at_ (wr (v5 + r21.1)) c44 r25.1 c76 r101.1) else ((m_gatemake_Stream_Odd r89.2 0 1000).bind fun (r103 : (Int × S_gatemake_Stream)) => gatemake_Stream_Events_J9 v5 l8 r21 r103.2.L r103.2.at_ r103.1 c44 r25.1 c76 c85))))) else (gatemake_Stream_Events_J9 v5 l8 r21 r86.2.L r86.2.at_ (wr (v5 + r21.1)) c44 r25.1 c76 c85)
noncomputable def gatemake_Stream_Events_J6 (v5 : Int) (l8 : (List S_api_Event)) (r21 : (Int × S_gatemake_Stream)) (r25 : (Bs × S_gatemake_Stream)) (c44 : Bs) (l45 : (List Bs)) (c74 : (List Int)) (c75 : Int) (c76 : Int) : Option ((Int × (List Int) × Int × (List S_api_Event)) ⊕ ((List S_api_Event) × S_gatemake_Stream)) :=
  if decide (c76 = 1) then (if decide ((l45.length : Int) = 0) then (gatemake_Stream_Events_J2 (wr (v5 + r21.1)) l8 c74 c75) else ((m_gatemake_Stream_Next (S_gatemake_Stream.mk c74 c75) (l45.length : Int)).bind fun (r79 : (Int × S_gatemake_Stream)) => (at? l45 r79.1).bind fun (x81 : Bs) => gatemake_Stream_Events_J8 v5 l8 r21 r25 c44 c76 r79.2.L r79.2.at_ x81)) else (gatemake_Stream_Events_J8 v5 l8 r21 r25 c44 c76 c74 c75 [])
noncomputable def gatemake_Stream_Events_J7 (v2 : S_api_Catalog) (v5 : Int) (l8 : (List S_api_Event)) (r21 : (Int × S_gatemake_Stream)) (r25 : (Bs × S_gatemake_Stream)) (r27 : (Int × S_gatemake_Stream)) (c44 : Bs) (l45 : (List Bs)) (v57 : Bool) (c58 : (List Int)) (c59 : Int) : Option ((Int × (List Int) × Int × (List S_api_Event)) ⊕ ((List S_api_Event) × S_gatemake_Stream)) :=
  if v57 then ((m_gateref2_Stages_v1 v2 l8 c44 r25.1).bind fun (r61 : ((List S_api_Sub) × (List Int))) => (at? r61.1 (wr ((r61.1.length : Int) - 1))).bind fun (x63 : S_api_Sub) => if decide (x63.State = 1) then ((m_gatemake_Stream_Pick (S_gatemake_Stream.mk c58 c59) [2, 2, 3]).bind fun (r66 : (Int × S_gatemake_Stream)) => gatemake_Stream_Events_J6 v5 l8 r21 r25 c44 l45 r66.2.L r66.2.at_ r66.1) else (if decide (x63.State = 2) then ((m_gatemake_Stream_Pick (S_gatemake_Stream.mk c58 c59) [4, 6, 1]).bind fun (r69 : (Int × S_gatemake_Stream)) => gatemake_Stream_Events_J6 v5 l8 r21 r25 c44 l45 r69.2.L r69.2.at_ r69.1) else (if decide (x63.State = 3) then ((m_gatemake_Stream_Pick (S_gatemake_Stream.mk c58 c59) [5, 6]).bind fun (r72 : (Int × S_gatemake_Stream)) => gatemake_Stream_Events_J6 v5 l8 r21 r25 c44 l45 r72.2.L r72.2.at_ r72.1) else (gatemake_Stream_Events_J6 v5 l8 r21 r25 c44 l45 c58 c59 1)))) else (gatemake_Stream_Events_J6 v5 l8 r21 r25 c44 l45 c58 c59 r27.1)
noncomputable def gatemake_Stream_Events_E5 (v2 : S_api_Catalog) (v5 : Int) (l8 : (List S_api_Event)) (r21 : (Int × S_gatemake_Stream)) (r25 : (Bs × S_gatemake_Stream)) (r27 : (Int × S_gatemake_Stream)) (c42 : (List Int)) (c43 : Int) (c44 : Bs) (l45 : (List Bs)) : Option ((Int × (List Int) × Int × (List S_api_Event)) ⊕ ((List S_api_Event) × S_gatemake_Stream)) :=
  (m_gatemake_Stream_Flip (S_gatemake_Stream.mk c42 c43) 4).bind fun (r50 : (Bool × S_gatemake_Stream)) => if !r50.1 then ((m_gateref2_CatalogFault v2).bind fun (r54 : (Int)) => gatemake_Stream_Events_J7 v2 v5 l8 r21 r25 r27 c44 l45 (decide (r54 = 0)) r50.2.L r50.2.at_) else (gatemake_Stream_Events_J7 v2 v5 l8 r21 r25 r27 c44 l45 false r50.2.L r50.2.at_)
noncomputable def gatemake_Stream_Events_J3 (v2 : S_api_Catalog) (v5 : Int) (l8 : (List S_api_Event)) (r21 : (Int × S_gatemake_Stream)) (r25 : (Bs × S_gatemake_Stream)) (r27 : (Int × S_gatemake_Stream)) (c42 : (List Int)) (c43 : Int) (c44 : Bs) : Option ((Int × (List Int) × Int × (List S_api_Event)) ⊕ ((List S_api_Event) × S_gatemake_Stream)) :=
  if v2.Plans.length ≤ 1000000000 then forL (fun (k : Nat) (x : S_api_Plan) (s : (List Bs)) => gatemake_Stream_Events_L5 r25 k x s) (fun (s : (List Bs)) => gatemake_Stream_Events_E5 v2 v5 l8 r21 r25 r27 c42 c43 c44 s) 0 v2.Plans [] else none
noncomputable def gatemake_Stream_Events_J4 (v2 : S_api_Catalog) (v3 : (List S_api_App)) (v5 : Int) (l8 : (List S_api_Event)) (r21 : (Int × S_gatemake_Stream)) (r23 : (Bs × S_gatemake_Stream)) (r25 : (Bs × S_gatemake_Stream)) (r27 : (Int × S_gatemake_Stream)) (v34 : Bool) (c35 : (List Int)) (c36 : Int) : Option ((Int × (List Int) × Int × (List S_api_Event)) ⊕ ((List S_api_Event) × S_gatemake_Stream)) :=
  if v34 then ((m_gatemake_Stream_Next (S_gatemake_Stream.mk c35 c36) (v3.length : Int)).bind fun (r38 : (Int × S_gatemake_Stream)) => (at? v3 r38.1).bind fun (x40 : S_api_App) => gatemake_Stream_Events_J3 v2 v5 l8 r21 r25 r27 r38.2.L r38.2.at_ x40.Key) else (gatemake_Stream_Events_J3 v2 v5 l8 r21 r25 r27 c35 c36 r23.1)
noncomputable def gatemake_Stream_Events_L1 (v2 : S_api_Catalog) (v3 : (List S_api_App)) (k9 : Nat) (v5 : Int) (c6 : (List Int)) (c7 : Int) (l8 : (List S_api_Event)) : Option ((Int × (List Int) × Int × (List S_api_Event)) ⊕ ((List S_api_Event) × S_gatemake_Stream)) :=
  (m_gatemake_Stream_Pick (S_gatemake_Stream.mk c6 c7) [1, 5, 86400000, 864000000, 2592000000, wr (2592000000 - (Int.tmod v5 2592000000))]).bind fun (r21 : (Int × S_gatemake_Stream)) => (m_gatemake_Stream_Some r21.2 ([[97, 112, 112, 49], [97, 112, 112, 49], [97, 112, 112, 50]])).bind fun (r23 : (Bs × S_gatemake_Stream)) => (m_gatemake_Stream_Some r23.2 ([[115, 104, 111, 112], [115, 104, 111, 112], [109, 97, 112, 115]])).bind fun (r25 : (Bs × S_gatemake_Stream)) => (m_gatemake_Stream_Range r25.2 1 6).bind fun (r27 : (Int × S_gatemake_Stream)) => if decide (0 < (v3.length : Int)) then ((m_gatemake_Stream_Flip r27.2 3).bind fun (r31 : (Bool × S_gatemake_Stream)) => gatemake_Stream_Events_J4 v2 v3 v5 l8 r21 r23 r25 r27 r31.1 r31.2.L r31.2.at_) else (gatemake_Stream_Events_J4 v2 v3 v5 l8 r21 r23 r25 r27 false r27.2.L r27.2.at_)
noncomputable def gatemake_Stream_Events_E1 (v5 : Int) (c6 : (List Int)) (c7 : Int) (l8 : (List S_api_Event)) : Option ((List S_api_Event) × S_gatemake_Stream) :=
  (m_slices_SortStableFunc_L_api_Event_api_Event_ l8 (fun (a0 : S_api_Event) (a1 : S_api_Event) => m_gateref2_EventOrder a0 a1)).bind fun (r12 : ((List S_api_Event))) => if r12.length = l8.length then ((m_gatemake_Stream_Flip (S_gatemake_Stream.mk c6 c7) 60).bind fun (r15 : (Bool × S_gatemake_Stream)) => if r15.1 then (some (r12, r15.2)) else ((m_slices_CompactFunc_L_api_Event_api_Event_ r12 (fun (a0 : S_api_Event) (a1 : S_api_Event) => m_gatemake_Stream_Events_1 a0 a1)).bind fun (r18 : ((List S_api_Event))) => some (r18, r15.2))) else none
noncomputable def m_gatemake_Stream_Events (s1 : S_gatemake_Stream) (v2 : S_api_Catalog) (v3 : (List S_api_App)) (v4 : Int) : Option ((List S_api_Event) × S_gatemake_Stream) :=
  if v4 ≤ 1000000000 then rng (fun (k : Nat) (s : Int × (List Int) × Int × (List S_api_Event)) => gatemake_Stream_Events_L1 v2 v3 k s.1 s.2.1 s.2.2.1 s.2.2.2) (fun (s : Int × (List Int) × Int × (List S_api_Event)) => gatemake_Stream_Events_E1 s.1 s.2.1 s.2.2.1 s.2.2.2) v4.toNat 0 (0, s1.L, s1.at_, []) else none
noncomputable def gateref2_AppsFault_J2 (last3 : Bs) (x7 : S_api_App) (v17 : Bool) : Option (Bs ⊕ (Int)) :=
  if v17 then (some (.inr 5)) else (if (Op.bytesLess x7.Key last3 || x7.Key == last3) then (some (.inr 7)) else (some (.inl x7.Key)))
noncomputable def gateref2_AppsFault_L1 (k4 : Nat) (x7 : S_api_App) (last3 : Bs) : Option (Bs ⊕ (Int)) :=
  (m_gateref2_Key x7.Key).bind fun (r10 : (Bool)) => if !r10 then (gateref2_AppsFault_J2 last3 x7 true) else ((m_gateref2_Key x7.Owner).bind fun (r14 : (Bool)) => gateref2_AppsFault_J2 last3 x7 (!r14))
noncomputable def gateref2_AppsFault_E1 (last3 : Bs) : Option (Int) :=
  some 0
noncomputable def m_gateref2_AppsFault (l1 : (List S_api_App)) : Option (Int) :=
  if decide (500 < (l1.length : Int)) then some 2 else (if l1.length ≤ 1000000000 then forL (fun (k : Nat) (x : S_api_App) (s : Bs) => gateref2_AppsFault_L1 k x s) (fun (s : Bs) => gateref2_AppsFault_E1 s) 0 l1 [] else none)
noncomputable def m_gateref2_both (c1 : S_api_Catalog) (apps2 : (List S_api_App)) : Option (Int) :=
  (m_gateref2_CatalogFault c1).bind fun (r3 : (Int)) => if decide (r3 ≠ 0) then some r3 else ((m_gateref2_AppsFault apps2).bind fun (r6 : (Int)) => some r6)
noncomputable def m_gateref2_Moment (v1 : Int) : Option (Bool) :=
  (m_gateref2_in v1 0 345686399999).bind fun (r2 : (Bool)) => some r2
noncomputable def slices_IndexFunc_L_api_App_api_App__L1 (p1 : S_api_App → Option (Bool)) (k2 : Nat) (x5 : S_api_App) : Option (Unit ⊕ (Int)) :=
  (p1 x5).bind fun (r8 : Bool) => if r8 then (some (.inr (k2 : Int))) else (some (.inl ()))
noncomputable def slices_IndexFunc_L_api_App_api_App__E1 : Option (Int) :=
  some (-1)
noncomputable def m_slices_IndexFunc_L_api_App_api_App_ (s1 : (List S_api_App)) (p1 : S_api_App → Option (Bool)) : Option (Int) :=
  if s1.length ≤ 1000000000 then forL (fun (k : Nat) (x : S_api_App) (s : Unit) => slices_IndexFunc_L_api_App_api_App__L1 p1 k x) (fun (s : Unit) => slices_IndexFunc_L_api_App_api_App__E1) 0 s1 () else none
noncomputable def m_gateref2_AppAt_1 (a1 : S_api_App) (c2 : Bs) : Option (Bool) :=
  some (decide (a1.Key = c2))
noncomputable def m_gateref2_AppAt (l1 : (List S_api_App)) (key2 : Bs) : Option (Int) :=
  (m_slices_IndexFunc_L_api_App_api_App_ l1 (fun (a0 : S_api_App) => m_gateref2_AppAt_1 a0 key2)).bind fun (r3 : (Int)) => some r3
noncomputable def gateref2_EventsFault_J4 (v47 : Bool) : Option (Unit ⊕ (Int)) :=
  if v47 then (some (.inr 7)) else (some (.inl ()))
noncomputable def gateref2_EventsFault_J3 (v3 : (List S_api_Event)) (k8 : Nat) (x11 : S_api_Event) (v38 : Bool) : Option (Unit ⊕ (Int)) :=
  if v38 then (some (.inr 16)) else (if decide (0 < (k8 : Int)) then ((at? v3 ((k8 : Int) - 1)).bind fun (x42 : S_api_Event) => (m_gateref2_EventOrder x42 x11).bind fun (r44 : (Int)) => gateref2_EventsFault_J4 (decide (0 ≤ r44))) else (gateref2_EventsFault_J4 false))
noncomputable def gateref2_EventsFault_J2 (v1 : S_api_Catalog) (v3 : (List S_api_Event)) (k8 : Nat) (x11 : S_api_Event) (r14 : (Int)) (v26 : Bool) : Option (Unit ⊕ (Int)) :=
  if v26 then (some (.inr 8)) else ((m_gateref2_in x11.Kind 1 6).bind fun (r28 : (Bool)) => if !r28 then (some (.inr 4)) else (if ((!(decide (x11.Kind = 1))) && (decide (x11.Plan ≠ []))) then (some (.inr 3)) else (if ((decide (x11.Kind = 1)) && (decide (r14 < 0))) then (some (.inr 8)) else (if decide (x11.Kind = 1) then ((at? v1.Plans r14).bind fun (x35 : S_api_Plan) => gateref2_EventsFault_J3 v3 k8 x11 (decide (x35.Product ≠ x11.Product))) else (gateref2_EventsFault_J3 v3 k8 x11 false)))))
noncomputable def gateref2_EventsFault_L1 (v1 : S_api_Catalog) (v2 : (List S_api_App)) (v3 : (List S_api_Event)) (k8 : Nat) (x11 : S_api_Event) : Option (Unit ⊕ (Int)) :=
  (m_gateref2_PlanAt v1 x11.Plan).bind fun (r14 : (Int)) => (m_gateref2_Moment x11.At).bind fun (r16 : (Bool)) => if !r16 then (some (.inr 1)) else ((m_gateref2_AppAt v2 x11.App).bind fun (r19 : (Int)) => if decide (r19 < 0) then (gateref2_EventsFault_J2 v1 v3 k8 x11 r14 true) else ((m_gateref2_ProductAt v1 x11.Product).bind fun (r23 : (Int)) => gateref2_EventsFault_J2 v1 v3 k8 x11 r14 (decide (r23 < 0))))
noncomputable def gateref2_EventsFault_E1 : Option (Int) :=
  some 0
noncomputable def m_gateref2_EventsFault (v1 : S_api_Catalog) (v2 : (List S_api_App)) (v3 : (List S_api_Event)) : Option (Int) :=
  (m_gateref2_both v1 v2).bind fun (r4 : (Int)) => if decide (r4 ≠ 0) then some r4 else (if decide (1000 < (v3.length : Int)) then some 2 else (if v3.length ≤ 1000000000 then forL (fun (k : Nat) (x : S_api_Event) (s : Unit) => gateref2_EventsFault_L1 v1 v2 v3 k x) (fun (s : Unit) => gateref2_EventsFault_E1) 0 v3 () else none))
noncomputable def m_gatelaw2_office (s1 : S_gatemake_Stream) (many2 : Int) : Option (S_api_Catalog × (List S_api_App) × (List S_api_Event) × Int × S_gatemake_Stream) :=
  (m_gatemake_Stream_Catalog s1).bind fun (r3 : (S_api_Catalog × S_gatemake_Stream)) => (m_gatemake_Stream_Apps r3.2).bind fun (r5 : ((List S_api_App) × S_gatemake_Stream)) => (m_gatemake_Stream_Events r5.2 r3.1 r5.1 many2).bind fun (r7 : ((List S_api_Event) × S_gatemake_Stream)) => (m_gateref2_EventsFault r3.1 r5.1 r7.1).bind fun (r9 : (Int)) => some (r3.1, r5.1, r7.1, r9, r7.2)
noncomputable def slices_Concat_L_api_Event_api_Event__L2 (k10 : Nat) (x13 : (List S_api_Event)) (l9 : (List S_api_Event)) : Option ((List S_api_Event) ⊕ ((List S_api_Event))) :=
  if l9.length + x13.length ≤ 1000000000 then (some (.inl (l9 ++ x13))) else none
noncomputable def slices_Concat_L_api_Event_api_Event__E2 (l9 : (List S_api_Event)) : Option ((List S_api_Event)) :=
  some l9
noncomputable def slices_Concat_L_api_Event_api_Event__L1 (k3 : Nat) (x6 : (List S_api_Event)) (size2 : Int) : Option (Int ⊕ ((List S_api_Event))) :=
  if decide ((wr (size2 + (x6.length : Int))) < 0) then none else (some (.inl (wr (size2 + (x6.length : Int)))))
noncomputable def slices_Concat_L_api_Event_api_Event__E1 (slices1 : (List (List S_api_Event))) (size2 : Int) : Option ((List S_api_Event)) :=
  (m_slices_Grow size2).bind fun (r7 : ((List S_api_Event))) => if slices1.length ≤ 1000000000 then forL (fun (k : Nat) (x : (List S_api_Event)) (s : (List S_api_Event)) => slices_Concat_L_api_Event_api_Event__L2 k x s) (fun (s : (List S_api_Event)) => slices_Concat_L_api_Event_api_Event__E2 s) 0 slices1 r7 else none
noncomputable def m_slices_Concat_L_api_Event_api_Event_ (slices1 : (List (List S_api_Event))) : Option ((List S_api_Event)) :=
  if slices1.length ≤ 1000000000 then forL (fun (k : Nat) (x : (List S_api_Event)) (s : Int) => slices_Concat_L_api_Event_api_Event__L1 k x s) (fun (s : Int) => slices_Concat_L_api_Event_api_Event__E1 slices1 s) 0 slices1 0 else none
noncomputable def m_cmp_isNaN_int_ (x1 : Int) : Option (Bool) :=
  some (decide (x1 ≠ x1))
noncomputable def m_cmp_Compare_int_ (x1 : Int) (y2 : Int) : Option (Int) :=
  (m_cmp_isNaN_int_ x1).bind fun (r3 : (Bool)) => (m_cmp_isNaN_int_ y2).bind fun (r5 : (Bool)) => if r3 then (if r5 then some 0 else (some (-1))) else (if r5 then some 1 else (if decide (x1 < y2) then (some (-1)) else (if decide (y2 < x1) then some 1 else some 0)))
noncomputable def cmp_Or_int__L1 (k2 : Nat) (x5 : Int) : Option (Unit ⊕ (Int)) :=
  if decide (x5 ≠ 0) then (some (.inr x5)) else (some (.inl ()))
noncomputable def cmp_Or_int__E1 : Option (Int) :=
  some 0
noncomputable def m_cmp_Or_int_ (vals1 : (List Int)) : Option (Int) :=
  if vals1.length ≤ 1000000000 then forL (fun (k : Nat) (x : Int) (s : Unit) => cmp_Or_int__L1 k x) (fun (s : Unit) => cmp_Or_int__E1) 0 vals1 () else none
noncomputable def m_portal_compareEvents (a1 : S_api_Event) (b2 : S_api_Event) : Option (Int) :=
  (m_cmp_Compare_int_ a1.At b2.At).bind fun (r3 : (Int)) => (m_strings_Compare a1.App b2.App).bind fun (r5 : (Int)) => (m_strings_Compare a1.Product b2.Product).bind fun (r7 : (Int)) => (m_cmp_Or_int_ [r3, r5, r7]).bind fun (r9 : (Int)) => some r9
noncomputable def slices_Compact_L_api_Event_api_Event__J5 (k13 : Int) (k24 : Int) (s25 : (List S_api_Event)) : Option ((Int × Int × (List S_api_Event)) ⊕ (Int ⊕ ((List S_api_Event)))) :=
  some (.inl (k24, wr (k13 + 1), s25))
noncomputable def slices_Compact_L_api_Event_api_Event__J3 (k26 : Int) (s27 : (List S_api_Event)) : Option (Int ⊕ ((List S_api_Event))) :=
  if (0 : Int) ≤ k26 ∧ k26 < (s27.length : Int) then (if (0 : Int) ≤ k26 ∧ k26 ≤ ((s27.take k26.toNat ++ List.replicate (s27.length - k26.toNat) (S_api_Event.mk 0 [] [] 0 [])).length : Int) then (some (.inr ((s27.take k26.toNat ++ List.replicate (s27.length - k26.toNat) (S_api_Event.mk 0 [] [] 0 [])).take k26.toNat))) else none) else none
noncomputable def slices_Compact_L_api_Event_api_Event__L4 (k3 : Int) (k12 : Int) (k13 : Int) (l14 : (List S_api_Event)) : Option ((Int × Int × (List S_api_Event)) ⊕ (Int ⊕ ((List S_api_Event)))) :=
  if decide (k13 < ((l14.drop k3.toNat).length : Int)) then ((at? (l14.drop k3.toNat) k13).bind fun (x17 : S_api_Event) => (at? (l14.drop k3.toNat) (wr (k13 - 1))).bind fun (x19 : S_api_Event) => if (!((x17.At == x19.At) && ((x17.App == x19.App) && ((x17.Product == x19.Product) && ((x17.Kind == x19.Kind) && ((x17.Plan == x19.Plan) && true)))))) then ((at? l14 k12).bind fun (x22 : S_api_Event) => slices_Compact_L_api_Event_api_Event__J5 k13 (wr (k12 + 1)) (l14.set k12.toNat x17)) else (slices_Compact_L_api_Event_api_Event__J5 k13 k12 l14)) else (Option.map .inr (slices_Compact_L_api_Event_api_Event__J3 k12 l14))
noncomputable def slices_Compact_L_api_Event_api_Event__J1 (s1 : (List S_api_Event)) : Option ((List S_api_Event)) :=
  some s1
noncomputable def slices_Compact_L_api_Event_api_Event__L2 (s1 : (List S_api_Event)) (k3 : Int) : Option (Int ⊕ ((List S_api_Event))) :=
  if decide (k3 < (s1.length : Int)) then ((at? s1 k3).bind fun (x6 : S_api_Event) => (at? s1 (wr (k3 - 1))).bind fun (x8 : S_api_Event) => if ((x6.At == x8.At) && ((x6.App == x8.App) && ((x6.Product == x8.Product) && ((x6.Kind == x8.Kind) && ((x6.Plan == x8.Plan) && true))))) then (if (0 : Int) ≤ k3 ∧ k3 < (s1.length : Int) then (iter (fun (s : Int × Int × (List S_api_Event)) => slices_Compact_L_api_Event_api_Event__L4 k3 s.1 s.2.1 s.2.2) (k3, 1, s1)) else none) else (some (.inl (wr (k3 + 1))))) else (Option.map .inr (slices_Compact_L_api_Event_api_Event__J1 s1))
noncomputable def m_slices_Compact_L_api_Event_api_Event_ (s1 : (List S_api_Event)) : Option ((List S_api_Event)) :=
  if decide ((s1.length : Int) < 2) then some s1 else (iter (fun (s : Int) => slices_Compact_L_api_Event_api_Event__L2 s1 s) 1)
noncomputable def kit_IsKey_L1 (i2 : Nat) (x5 : UInt8) : Option (Unit ⊕ (Bool)) :=
  if !(((decide (97 ≤ (x5.toNat : Int))) && (decide ((x5.toNat : Int) ≤ 122))) || ((decide (0 < (i2 : Int))) && ((((decide (48 ≤ (x5.toNat : Int))) && (decide ((x5.toNat : Int) ≤ 57))) || (decide ((x5.toNat : Int) = 45))) || (decide ((x5.toNat : Int) = 95))))) then (some (.inr false)) else (some (.inl ()))
noncomputable def kit_IsKey_E1 (s1 : Bs) : Option (Bool) :=
  some ((decide (s1 ≠ [])) && (decide ((s1.length : Int) ≤ 40)))
noncomputable def m_kit_IsKey (s1 : Bs) : Option (Bool) :=
  if s1.length ≤ 1000000000 then forL (fun (k : Nat) (x : UInt8) (s : Unit) => kit_IsKey_L1 k x) (fun (s : Unit) => kit_IsKey_E1 s1) 0 s1 () else none
noncomputable def token_isScope_L1 (r2 : ((List Bs))) (k4 : Nat) (x7 : Bs) : Option (Unit ⊕ (Bool)) :=
  (m_kit_IsKey x7).bind fun (r10 : (Bool)) => if ((!r10) && (!((decide (x7 = [42])) && (decide ((k4 : Int) = (wr ((r2.length : Int) - 1))))))) then (some (.inr false)) else (some (.inl ()))
noncomputable def token_isScope_E1 (r2 : ((List Bs))) : Option (Bool) :=
  some (decide ((r2.length : Int) ≤ 10))
noncomputable def m_token_isScope (s1 : Bs) : Option (Bool) :=
  (m_strings_Split s1 [58]).bind fun (r2 : ((List Bs))) => if r2.length ≤ 1000000000 then forL (fun (k : Nat) (x : Bs) (s : Unit) => token_isScope_L1 r2 k x) (fun (s : Unit) => token_isScope_E1 r2) 0 r2 () else none
noncomputable def token_CheckScopes_L1 (k3 : Nat) (x6 : Bs) : Option (Unit ⊕ (Int)) :=
  (m_token_isScope x6).bind fun (r9 : (Bool)) => if !r9 then (some (.inr 3)) else (some (.inl ()))
noncomputable def token_CheckScopes_E1 : Option (Int) :=
  some 0
noncomputable def m_token_CheckScopes (l1 : (List Bs)) : Option (Int) :=
  if decide (50 < (l1.length : Int)) then some 2 else (if l1.length ≤ 1000000000 then forL (fun (k : Nat) (x : Bs) (s : Unit) => token_CheckScopes_L1 k x) (fun (s : Unit) => token_CheckScopes_E1) 0 l1 () else none)
noncomputable def portal_productsFault_J2 (x6 : S_api_Product) (v17 : Bool) : Option (Unit ⊕ (Int)) :=
  if v17 then (some (.inr 7)) else ((m_token_CheckScopes x6.Scopes).bind fun (r19 : (Int)) => if decide (r19 ≠ 0) then (some (.inr r19)) else (some (.inl ())))
noncomputable def portal_productsFault_L1 (l1 : (List S_api_Product)) (k3 : Nat) (x6 : S_api_Product) : Option (Unit ⊕ (Int)) :=
  (m_kit_IsKey x6.Key).bind fun (r9 : (Bool)) => if !r9 then (some (.inr 5)) else (if decide (0 < (k3 : Int)) then ((at? l1 ((k3 : Int) - 1)).bind fun (x14 : S_api_Product) => portal_productsFault_J2 x6 (Op.bytesLess x6.Key x14.Key || x6.Key == x14.Key)) else (portal_productsFault_J2 x6 false))
noncomputable def portal_productsFault_E1 : Option (Int) :=
  some 0
noncomputable def m_portal_productsFault (l1 : (List S_api_Product)) : Option (Int) :=
  if decide (100 < (l1.length : Int)) then some 2 else (if l1.length ≤ 1000000000 then forL (fun (k : Nat) (x : S_api_Product) (s : Unit) => portal_productsFault_L1 l1 k x) (fun (s : Unit) => portal_productsFault_E1) 0 l1 () else none)
noncomputable def slices_BinarySearchFunc_L_api_Product_api_Product_string__J3 (i12 : Int) (v20 : Bool) : Option (Int × Bool) :=
  some (i12, v20)
noncomputable def slices_BinarySearchFunc_L_api_Product_api_Product_string__J1 (x1 : (List S_api_Product)) (target2 : Bs) (p2 : S_api_Product → Bs → Option (Int)) (i12 : Int) : Option (Int × Bool) :=
  if decide (i12 < (x1.length : Int)) then ((at? x1 i12).bind fun (x15 : S_api_Product) => (p2 x15 target2).bind fun (r17 : Int) => slices_BinarySearchFunc_L_api_Product_api_Product_string__J3 i12 (decide (r17 = 0))) else (slices_BinarySearchFunc_L_api_Product_api_Product_string__J3 i12 false)
noncomputable def slices_BinarySearchFunc_L_api_Product_api_Product_string__L2 (x1 : (List S_api_Product)) (target2 : Bs) (p2 : S_api_Product → Bs → Option (Int)) (i3 : Int) (j4 : Int) : Option ((Int × Int) ⊕ (Int × Bool)) :=
  if decide (i3 < j4) then ((at? x1 (IntKind.wrap .i64 (shr_ .u64 (IntKind.wrap .u64 (wr (i3 + j4))) 1))).bind fun (x7 : S_api_Product) => (p2 x7 target2).bind fun (r9 : Int) => if decide (r9 < 0) then (some (.inl (wr ((IntKind.wrap .i64 (shr_ .u64 (IntKind.wrap .u64 (wr (i3 + j4))) 1)) + 1), j4))) else (some (.inl (i3, IntKind.wrap .i64 (shr_ .u64 (IntKind.wrap .u64 (wr (i3 + j4))) 1))))) else (Option.map .inr (slices_BinarySearchFunc_L_api_Product_api_Product_string__J1 x1 target2 p2 i3))
noncomputable def m_slices_BinarySearchFunc_L_api_Product_api_Product_string_ (x1 : (List S_api_Product)) (target2 : Bs) (p2 : S_api_Product → Bs → Option (Int)) : Option (Int × Bool) :=
  iter (fun (s : Int × Int) => slices_BinarySearchFunc_L_api_Product_api_Product_string__L2 x1 target2 p2 s.1 s.2) (0, (x1.length : Int))
noncomputable def m_portal_productAt_1 (p1 : S_api_Product) (k2 : Bs) : Option (Int) :=
  (m_strings_Compare p1.Key k2).bind fun (r3 : (Int)) => some r3
noncomputable def m_portal_productAt (c1 : S_api_Catalog) (key2 : Bs) : Option (Int × Bool) :=
  (m_slices_BinarySearchFunc_L_api_Product_api_Product_string_ c1.Products key2 (fun (a0 : S_api_Product) (a1 : Bs) => m_portal_productAt_1 a0 a1)).bind fun (r3 : (Int × Bool)) => some (r3.1, r3.2)
noncomputable def m_kit_Outside (n1 : Int) (low2 : Int) (high3 : Int) : Option (Bool) :=
  some ((decide (n1 < low2)) || (decide (high3 < n1)))
noncomputable def portal_tiersFault_J2 (v12 : Bool) : Option (Int) :=
  if v12 then some 3 else some 0
noncomputable def portal_tiersFault_J4 (v30 : Bool) : Option (Unit ⊕ (Int)) :=
  if v30 then (some (.inr 7)) else (some (.inl ()))
noncomputable def portal_tiersFault_J3 (l1 : (List S_api_Tier)) (k3 : Nat) (x6 : S_api_Tier) (v23 : Bool) : Option (Unit ⊕ (Int)) :=
  if v23 then (some (.inr 1)) else (if decide (0 < (k3 : Int)) then ((at? l1 ((k3 : Int) - 1)).bind fun (x27 : S_api_Tier) => portal_tiersFault_J4 (decide (x6.From ≤ x27.From))) else (portal_tiersFault_J4 false))
noncomputable def portal_tiersFault_L1 (l1 : (List S_api_Tier)) (k3 : Nat) (x6 : S_api_Tier) : Option (Unit ⊕ (Int)) :=
  (m_kit_Outside x6.From 1 1000000000000).bind fun (r16 : (Bool)) => if r16 then (portal_tiersFault_J3 l1 k3 x6 true) else ((m_kit_Outside x6.Cents 0 1000000).bind fun (r20 : (Bool)) => portal_tiersFault_J3 l1 k3 x6 r20)
noncomputable def portal_tiersFault_E1 (l1 : (List S_api_Tier)) : Option (Int) :=
  if decide (0 < (l1.length : Int)) then ((l1[0]?).bind fun (x9 : S_api_Tier) => portal_tiersFault_J2 (decide (x9.From ≠ 1))) else (portal_tiersFault_J2 false)
noncomputable def m_portal_tiersFault (l1 : (List S_api_Tier)) : Option (Int) :=
  if decide (20 < (l1.length : Int)) then some 2 else (if l1.length ≤ 1000000000 then forL (fun (k : Nat) (x : S_api_Tier) (s : Unit) => portal_tiersFault_L1 l1 k x) (fun (s : Unit) => portal_tiersFault_E1 l1) 0 l1 () else none)
noncomputable def portal_planFault_J3 (v37 : Bool) : Option (Int) :=
  if v37 then some 1 else some 0
noncomputable def portal_planFault_J2 (x3 : S_api_Plan) (v25 : Bool) : Option (Int) :=
  if v25 then some 1 else ((m_portal_tiersFault x3.Tiers).bind fun (r27 : (Int)) => if decide (r27 ≠ 0) then some r27 else ((m_kit_Outside x3.Limit (-1) 1000000000000).bind fun (r30 : (Bool)) => if r30 then (portal_planFault_J3 true) else ((m_kit_Outside x3.Trial 0 132).bind fun (r34 : (Bool)) => portal_planFault_J3 r34)))
noncomputable def portal_planFault_J1 (v1 : S_api_Catalog) (x3 : S_api_Plan) (v13 : Bool) : Option (Int) :=
  if v13 then some 7 else ((m_portal_productAt v1 x3.Product).bind fun (r15 : (Int × Bool)) => if !r15.2 then some 8 else ((m_kit_Outside x3.Base 0 1000000000000).bind fun (r18 : (Bool)) => if r18 then (portal_planFault_J2 x3 true) else ((m_kit_Outside x3.Free 0 1000000000000).bind fun (r22 : (Bool)) => portal_planFault_J2 x3 r22)))
noncomputable def m_portal_planFault (v1 : S_api_Catalog) (v2 : Int) : Option (Int) :=
  (at? v1.Plans v2).bind fun (x3 : S_api_Plan) => (m_kit_IsKey x3.Key).bind fun (r5 : (Bool)) => if !r5 then some 5 else (if decide (0 < v2) then ((at? v1.Plans (wr (v2 - 1))).bind fun (x10 : S_api_Plan) => portal_planFault_J1 v1 x3 (Op.bytesLess x3.Key x10.Key || x3.Key == x10.Key)) else (portal_planFault_J1 v1 x3 false))
noncomputable def portal_CheckCatalog_L1 (c1 : S_api_Catalog) (k6 : Nat) (x9 : S_api_Plan) : Option (Unit ⊕ (Int)) :=
  (m_portal_planFault c1 (k6 : Int)).bind fun (r12 : (Int)) => if decide (r12 ≠ 0) then (some (.inr r12)) else (some (.inl ()))
noncomputable def portal_CheckCatalog_E1 : Option (Int) :=
  some 0
noncomputable def m_portal_CheckCatalog (c1 : S_api_Catalog) : Option (Int) :=
  (m_portal_productsFault c1.Products).bind fun (r2 : (Int)) => if decide (r2 ≠ 0) then some r2 else (if decide (100 < (c1.Plans.length : Int)) then some 2 else (if c1.Plans.length ≤ 1000000000 then forL (fun (k : Nat) (x : S_api_Plan) (s : Unit) => portal_CheckCatalog_L1 c1 k x) (fun (s : Unit) => portal_CheckCatalog_E1) 0 c1.Plans () else none))
noncomputable def portal_CheckApps_J3 (v23 : Bool) : Option (Unit ⊕ (Int)) :=
  if v23 then (some (.inr 7)) else (some (.inl ()))
noncomputable def portal_CheckApps_J2 (l1 : (List S_api_App)) (k3 : Nat) (x6 : S_api_App) (v16 : Bool) : Option (Unit ⊕ (Int)) :=
  if v16 then (some (.inr 5)) else (if decide (0 < (k3 : Int)) then ((at? l1 ((k3 : Int) - 1)).bind fun (x20 : S_api_App) => portal_CheckApps_J3 (Op.bytesLess x6.Key x20.Key || x6.Key == x20.Key)) else (portal_CheckApps_J3 false))
noncomputable def portal_CheckApps_L1 (l1 : (List S_api_App)) (k3 : Nat) (x6 : S_api_App) : Option (Unit ⊕ (Int)) :=
  (m_kit_IsKey x6.Key).bind fun (r9 : (Bool)) => if !r9 then (portal_CheckApps_J2 l1 k3 x6 true) else ((m_kit_IsKey x6.Owner).bind fun (r13 : (Bool)) => portal_CheckApps_J2 l1 k3 x6 (!r13))
noncomputable def portal_CheckApps_E1 : Option (Int) :=
  some 0
noncomputable def m_portal_CheckApps (l1 : (List S_api_App)) : Option (Int) :=
  if decide (500 < (l1.length : Int)) then some 2 else (if l1.length ≤ 1000000000 then forL (fun (k : Nat) (x : S_api_App) (s : Unit) => portal_CheckApps_L1 l1 k x) (fun (s : Unit) => portal_CheckApps_E1) 0 l1 () else none)
noncomputable def m_kit_IsMoment (n1 : Int) : Option (Bool) :=
  some ((decide (0 ≤ n1)) && (decide (n1 < 345686400000)))
noncomputable def slices_BinarySearchFunc_L_api_App_api_App_string__J3 (i12 : Int) (v20 : Bool) : Option (Int × Bool) :=
  some (i12, v20)
noncomputable def slices_BinarySearchFunc_L_api_App_api_App_string__J1 (x1 : (List S_api_App)) (target2 : Bs) (p2 : S_api_App → Bs → Option (Int)) (i12 : Int) : Option (Int × Bool) :=
  if decide (i12 < (x1.length : Int)) then ((at? x1 i12).bind fun (x15 : S_api_App) => (p2 x15 target2).bind fun (r17 : Int) => slices_BinarySearchFunc_L_api_App_api_App_string__J3 i12 (decide (r17 = 0))) else (slices_BinarySearchFunc_L_api_App_api_App_string__J3 i12 false)
noncomputable def slices_BinarySearchFunc_L_api_App_api_App_string__L2 (x1 : (List S_api_App)) (target2 : Bs) (p2 : S_api_App → Bs → Option (Int)) (i3 : Int) (j4 : Int) : Option ((Int × Int) ⊕ (Int × Bool)) :=
  if decide (i3 < j4) then ((at? x1 (IntKind.wrap .i64 (shr_ .u64 (IntKind.wrap .u64 (wr (i3 + j4))) 1))).bind fun (x7 : S_api_App) => (p2 x7 target2).bind fun (r9 : Int) => if decide (r9 < 0) then (some (.inl (wr ((IntKind.wrap .i64 (shr_ .u64 (IntKind.wrap .u64 (wr (i3 + j4))) 1)) + 1), j4))) else (some (.inl (i3, IntKind.wrap .i64 (shr_ .u64 (IntKind.wrap .u64 (wr (i3 + j4))) 1))))) else (Option.map .inr (slices_BinarySearchFunc_L_api_App_api_App_string__J1 x1 target2 p2 i3))
noncomputable def m_slices_BinarySearchFunc_L_api_App_api_App_string_ (x1 : (List S_api_App)) (target2 : Bs) (p2 : S_api_App → Bs → Option (Int)) : Option (Int × Bool) :=
  iter (fun (s : Int × Int) => slices_BinarySearchFunc_L_api_App_api_App_string__L2 x1 target2 p2 s.1 s.2) (0, (x1.length : Int))
noncomputable def m_portal_appAt_1 (a1 : S_api_App) (k2 : Bs) : Option (Int) :=
  (m_strings_Compare a1.Key k2).bind fun (r3 : (Int)) => some r3
noncomputable def m_portal_appAt (l1 : (List S_api_App)) (key2 : Bs) : Option (Int × Bool) :=
  (m_slices_BinarySearchFunc_L_api_App_api_App_string_ l1 key2 (fun (a0 : S_api_App) (a1 : Bs) => m_portal_appAt_1 a0 a1)).bind fun (r3 : (Int × Bool)) => some (r3.1, r3.2)
noncomputable def slices_BinarySearchFunc_L_api_Plan_api_Plan_string__J3 (i12 : Int) (v20 : Bool) : Option (Int × Bool) :=
  some (i12, v20)
noncomputable def slices_BinarySearchFunc_L_api_Plan_api_Plan_string__J1 (x1 : (List S_api_Plan)) (target2 : Bs) (p2 : S_api_Plan → Bs → Option (Int)) (i12 : Int) : Option (Int × Bool) :=
  if decide (i12 < (x1.length : Int)) then ((at? x1 i12).bind fun (x15 : S_api_Plan) => (p2 x15 target2).bind fun (r17 : Int) => slices_BinarySearchFunc_L_api_Plan_api_Plan_string__J3 i12 (decide (r17 = 0))) else (slices_BinarySearchFunc_L_api_Plan_api_Plan_string__J3 i12 false)
noncomputable def slices_BinarySearchFunc_L_api_Plan_api_Plan_string__L2 (x1 : (List S_api_Plan)) (target2 : Bs) (p2 : S_api_Plan → Bs → Option (Int)) (i3 : Int) (j4 : Int) : Option ((Int × Int) ⊕ (Int × Bool)) :=
  if decide (i3 < j4) then ((at? x1 (IntKind.wrap .i64 (shr_ .u64 (IntKind.wrap .u64 (wr (i3 + j4))) 1))).bind fun (x7 : S_api_Plan) => (p2 x7 target2).bind fun (r9 : Int) => if decide (r9 < 0) then (some (.inl (wr ((IntKind.wrap .i64 (shr_ .u64 (IntKind.wrap .u64 (wr (i3 + j4))) 1)) + 1), j4))) else (some (.inl (i3, IntKind.wrap .i64 (shr_ .u64 (IntKind.wrap .u64 (wr (i3 + j4))) 1))))) else (Option.map .inr (slices_BinarySearchFunc_L_api_Plan_api_Plan_string__J1 x1 target2 p2 i3))
noncomputable def m_slices_BinarySearchFunc_L_api_Plan_api_Plan_string_ (x1 : (List S_api_Plan)) (target2 : Bs) (p2 : S_api_Plan → Bs → Option (Int)) : Option (Int × Bool) :=
  iter (fun (s : Int × Int) => slices_BinarySearchFunc_L_api_Plan_api_Plan_string__L2 x1 target2 p2 s.1 s.2) (0, (x1.length : Int))
noncomputable def m_portal_planOf_1 (p1 : S_api_Plan) (k2 : Bs) : Option (Int) :=
  (m_strings_Compare p1.Key k2).bind fun (r3 : (Int)) => some r3
noncomputable def m_portal_planOf (c1 : S_api_Catalog) (key2 : Bs) : Option (S_api_Plan × Bool) :=
  (m_slices_BinarySearchFunc_L_api_Plan_api_Plan_string_ c1.Plans key2 (fun (a0 : S_api_Plan) (a1 : Bs) => m_portal_planOf_1 a0 a1)).bind fun (r3 : (Int × Bool)) => if !r3.2 then (some ((S_api_Plan.mk [] [] 0 0 [] 0 0 false), false)) else ((at? c1.Plans r3.1).bind fun (x6 : S_api_Plan) => some (x6, true))
noncomputable def portal_eventFault_J2 (v32 : Bool) : Option (Int) :=
  if v32 then some 7 else some 0
noncomputable def portal_eventFault_J1 (v3 : (List S_api_Event)) (v4 : Int) (x5 : S_api_Event) : Option (Int) :=
  if decide (0 < v4) then ((at? v3 (wr (v4 - 1))).bind fun (x27 : S_api_Event) => (m_portal_compareEvents x27 x5).bind fun (r29 : (Int)) => portal_eventFault_J2 (decide (0 ≤ r29))) else (portal_eventFault_J2 false)
noncomputable def m_portal_eventFault (v1 : S_api_Catalog) (v2 : (List S_api_App)) (v3 : (List S_api_Event)) (v4 : Int) : Option (Int) :=
  (at? v3 v4).bind fun (x5 : S_api_Event) => (m_kit_IsMoment x5.At).bind fun (r7 : (Bool)) => if !r7 then some 1 else ((m_portal_appAt v2 x5.App).bind fun (r10 : (Int × Bool)) => if !r10.2 then some 8 else ((m_portal_productAt v1 x5.Product).bind fun (r13 : (Int × Bool)) => if !r13.2 then some 8 else ((m_kit_Outside x5.Kind 1 6).bind fun (r16 : (Bool)) => if r16 then some 4 else (if ((decide (x5.Plan ≠ [])) && (decide (x5.Kind ≠ 1))) then some 3 else (if decide (x5.Kind = 1) then ((m_portal_planOf v1 x5.Plan).bind fun (r21 : (S_api_Plan × Bool)) => if !r21.2 then some 8 else (if decide (r21.1.Product ≠ x5.Product) then some 16 else (portal_eventFault_J1 v3 v4 x5))) else (portal_eventFault_J1 v3 v4 x5))))))
noncomputable def portal_CheckEvents_L1 (c1 : S_api_Catalog) (apps2 : (List S_api_App)) (l3 : (List S_api_Event)) (k11 : Nat) (x14 : S_api_Event) : Option (Unit ⊕ (Int)) :=
  (m_portal_eventFault c1 apps2 l3 (k11 : Int)).bind fun (r17 : (Int)) => if decide (r17 ≠ 0) then (some (.inr r17)) else (some (.inl ()))
noncomputable def portal_CheckEvents_E1 : Option (Int) :=
  some 0
noncomputable def m_portal_CheckEvents (c1 : S_api_Catalog) (apps2 : (List S_api_App)) (l3 : (List S_api_Event)) : Option (Int) :=
  (m_portal_CheckCatalog c1).bind fun (r4 : (Int)) => if decide (r4 ≠ 0) then some r4 else ((m_portal_CheckApps apps2).bind fun (r7 : (Int)) => if decide (r7 ≠ 0) then some r7 else (if decide (1000 < (l3.length : Int)) then some 2 else (if l3.length ≤ 1000000000 then forL (fun (k : Nat) (x : S_api_Event) (s : Unit) => portal_CheckEvents_L1 c1 apps2 l3 k x) (fun (s : Unit) => portal_CheckEvents_E1) 0 l3 () else none)))
noncomputable def portal_Merge_J2 (r13 : ((List S_api_Event))) : Option ((List S_api_Event) × Int) :=
  if decide (1000 < (r13.length : Int)) then (some ([], 2)) else (some (r13, 0))
noncomputable def portal_Merge_L3 (r13 : ((List S_api_Event))) (i15 : Int) : Option (Int ⊕ ((List S_api_Event) × Int)) :=
  if decide (i15 < (r13.length : Int)) then ((at? r13 (wr (i15 - 1))).bind fun (x18 : S_api_Event) => (at? r13 i15).bind fun (x20 : S_api_Event) => (m_portal_compareEvents x18 x20).bind fun (r22 : (Int)) => if decide (r22 = 0) then (some (.inr ([], 13))) else (some (.inl (wr (i15 + 1))))) else (Option.map .inr (portal_Merge_J2 r13))
noncomputable def portal_Merge_L1 (c1 : S_api_Catalog) (apps2 : (List S_api_App)) (a3 : (List S_api_Event)) (b4 : (List S_api_Event)) (k5 : Nat) : Option (Unit ⊕ ((List S_api_Event) × Int)) :=
  (([a3, b4] : List (List S_api_Event))[k5]?).bind fun (x27 : (List S_api_Event)) => (m_portal_CheckEvents c1 apps2 x27).bind fun (r29 : (Int)) => if decide (r29 ≠ 0) then (some (.inr ([], r29))) else (some (.inl ()))
noncomputable def portal_Merge_E1 (a3 : (List S_api_Event)) (b4 : (List S_api_Event)) : Option ((List S_api_Event) × Int) :=
  (m_slices_Concat_L_api_Event_api_Event_ [a3, b4]).bind fun (r8 : ((List S_api_Event))) => (m_slices_SortStableFunc_L_api_Event_api_Event_ r8 (fun (a0 : S_api_Event) (a1 : S_api_Event) => m_portal_compareEvents a0 a1)).bind fun (r10 : ((List S_api_Event))) => if r10.length = r8.length then ((m_slices_Compact_L_api_Event_api_Event_ r10).bind fun (r13 : ((List S_api_Event))) => iter (fun (s : Int) => portal_Merge_L3 r13 s) 1) else none
noncomputable def m_portal_Merge (c1 : S_api_Catalog) (apps2 : (List S_api_App)) (a3 : (List S_api_Event)) (b4 : (List S_api_Event)) : Option ((List S_api_Event) × Int) :=
  if 2 ≤ 1000000000 then rng (fun (k : Nat) (s : Unit) => portal_Merge_L1 c1 apps2 a3 b4 k) (fun (s : Unit) => portal_Merge_E1 a3 b4) 2 0 () else none
noncomputable def m_portal_none  : Option (S_api_Sub) :=
  some (S_api_Sub.mk 0 [] 0 (-1))
noncomputable def m_portal_book_sub_w (s1 : S_portal_book) (app2 : Bs) (product3 : Bs) : Option (S_api_Sub) :=
  if app2.length ≤ 1000000000 ∧ product3.length ≤ 1000000000 then (if !((lkG s1.subs_ (S_portal_pair.mk app2 product3)).isSome) then ((m_portal_none ).bind fun (r6 : (S_api_Sub)) => some r6) else (some (S_api_Sub.mk (((lkG s1.subs_ (S_portal_pair.mk app2 product3)).getD (S_api_Sub.mk 0 [] 0 0)).State) (((lkG s1.subs_ (S_portal_pair.mk app2 product3)).getD (S_api_Sub.mk 0 [] 0 0)).Plan) (((lkG s1.subs_ (S_portal_pair.mk app2 product3)).getD (S_api_Sub.mk 0 [] 0 0)).Since) (((lkG s1.subs_ (S_portal_pair.mk app2 product3)).getD (S_api_Sub.mk 0 [] 0 0)).First)))) else none
noncomputable def m_portal_isOn (state1 : Int) : Option (Bool) :=
  some ((decide (state1 = 2)) || (decide (state1 = 3)))
noncomputable def m_portal_asked (s1 : S_api_Sub) (x2 : S_api_Event) (p3 : S_api_Plan) : Option (S_api_Sub × Bool) :=
  (m_portal_isOn s1.State).bind fun (r4 : (Bool)) => if r4 then (if ((decide (p3.Key = s1.Plan)) || p3.Asked) then (some (s1, false)) else (some ((S_api_Sub.mk s1.State p3.Key x2.At s1.First), true))) else (if decide (s1.State = 1) then (some (s1, false)) else (if p3.Asked then (some ((S_api_Sub.mk 1 p3.Key x2.At (-1)), true)) else (some ((S_api_Sub.mk 2 p3.Key x2.At x2.At), true))))
noncomputable def portal_goal_J1 (v12 : Bool) : Option (Int × Bool) :=
  some (4, v12)
noncomputable def m_portal_goal (kind1 : Int) (state2 : Int) : Option (Int × Bool) :=
  if decide (kind1 = 2) then (some (2, decide (state2 = 1))) else (if decide (kind1 = 3) then (some (4, decide (state2 = 1))) else (if decide (kind1 = 4) then (some (3, decide (state2 = 2))) else (if decide (kind1 = 5) then (some (2, decide (state2 = 3))) else (if decide (state2 = 1) then (portal_goal_J1 true) else ((m_portal_isOn state2).bind fun (r9 : (Bool)) => portal_goal_J1 r9)))))
noncomputable def portal_followed_J1 (s2 : S_api_Sub) (x3 : S_api_Event) (r9 : (Int × Bool)) (c13 : Int) : Option (S_api_Sub × Bool) :=
  some ((S_api_Sub.mk r9.1 s2.Plan x3.At c13), true)
noncomputable def m_portal_followed (c1 : S_api_Catalog) (s2 : S_api_Sub) (x3 : S_api_Event) : Option (S_api_Sub × Bool) :=
  if decide (x3.Kind = 1) then ((m_portal_planOf c1 x3.Plan).bind fun (r5 : (S_api_Plan × Bool)) => (m_portal_asked s2 x3 r5.1).bind fun (r7 : (S_api_Sub × Bool)) => some (r7.1, r7.2)) else ((m_portal_goal x3.Kind s2.State).bind fun (r9 : (Int × Bool)) => if !r9.2 then (some (s2, false)) else (if ((decide (r9.1 = 2)) && (decide (s2.First < 0))) then (portal_followed_J1 s2 x3 r9 x3.At) else (portal_followed_J1 s2 x3 r9 s2.First)))
noncomputable def portal_bookAt_f_J3 (v23 : (List Int)) (m24 : (List (S_portal_pair × Int))) (m25 : (List (S_portal_pair × S_api_Sub))) : Option (((List (S_portal_pair × S_api_Sub)) × (List (S_portal_pair × Int)) × (List Int)) ⊕ (S_portal_book × (List Int))) :=
  some (.inl (m25, m24, v23))
noncomputable def portal_bookAt_f_J1 (v26 : (List Int)) (m27 : (List (S_portal_pair × Int))) (m28 : (List (S_portal_pair × S_api_Sub))) : Option (S_portal_book × (List Int)) :=
  some ((S_portal_book.mk m28 m27), v26)
noncomputable def portal_bookAt_f_L2 (v1 : S_api_Catalog) (v3 : Int) (k7 : Nat) (x10 : S_api_Event) (m4 : (List (S_portal_pair × S_api_Sub))) (m5 : (List (S_portal_pair × Int))) (l6 : (List Int)) : Option (((List (S_portal_pair × S_api_Sub)) × (List (S_portal_pair × Int)) × (List Int)) ⊕ (S_portal_book × (List Int))) :=
  if decide (v3 < x10.At) then (Option.map .inr (portal_bookAt_f_J1 l6 m5 m4)) else ((m_portal_book_sub_w (S_portal_book.mk m4 m5) x10.App x10.Product).bind fun (r14 : (S_api_Sub)) => (m_portal_followed v1 r14 x10).bind fun (r16 : (S_api_Sub × Bool)) => if !r16.2 then (if l6.length + 1 ≤ 1000000000 then (portal_bookAt_f_J3 (l6 ++ [(k7 : Int)]) m5 m4) else none) else (if x10.App.length ≤ 1000000000 ∧ x10.Product.length ≤ 1000000000 then (if decide (x10.Kind = 1) then (if x10.App.length ≤ 1000000000 ∧ x10.Product.length ≤ 1000000000 then (portal_bookAt_f_J3 l6 (ptG m5 (S_portal_pair.mk x10.App x10.Product) (k7 : Int)) (ptG m4 (S_portal_pair.mk x10.App x10.Product) r16.1)) else none) else (portal_bookAt_f_J3 l6 m5 (ptG m4 (S_portal_pair.mk x10.App x10.Product) r16.1))) else none))
noncomputable def portal_bookAt_f_E2 (m4 : (List (S_portal_pair × S_api_Sub))) (m5 : (List (S_portal_pair × Int))) (l6 : (List Int)) : Option (S_portal_book × (List Int)) :=
  portal_bookAt_f_J1 l6 m5 m4
noncomputable def m_portal_bookAt_f (v1 : S_api_Catalog) (v2 : (List S_api_Event)) (v3 : Int) : Option (S_portal_book × (List Int)) :=
  if v2.length ≤ 1000000000 then forL (fun (k : Nat) (x : S_api_Event) (s : (List (S_portal_pair × S_api_Sub)) × (List (S_portal_pair × Int)) × (List Int)) => portal_bookAt_f_L2 v1 v3 k x s.1 s.2.1 s.2.2) (fun (s : (List (S_portal_pair × S_api_Sub)) × (List (S_portal_pair × Int)) × (List Int)) => portal_bookAt_f_E2 s.1 s.2.1 s.2.2) 0 v2 ([], [], []) else none
noncomputable def m_portal_Refused (c1 : S_api_Catalog) (apps2 : (List S_api_App)) (l3 : (List S_api_Event)) : Option ((List Int) × Int) :=
  (m_portal_CheckEvents c1 apps2 l3).bind fun (r4 : (Int)) => if decide (r4 ≠ 0) then (some ([], r4)) else ((m_portal_bookAt_f c1 l3 345686400000).bind fun (r7 : (S_portal_book × (List Int))) => some (r7.2, 0))
noncomputable def gatelaw2_errs_L1 (k2 : Nat) (x5 : Int) : Option (Unit ⊕ (Int)) :=
  if decide (x5 ≠ 0) then (some (.inr x5)) else (some (.inl ()))
noncomputable def gatelaw2_errs_E1 : Option (Int) :=
  some 0
noncomputable def m_gatelaw2_errs (l1 : (List Int)) : Option (Int) :=
  if l1.length ≤ 1000000000 then forL (fun (k : Nat) (x : Int) (s : Unit) => gatelaw2_errs_L1 k x) (fun (s : Unit) => gatelaw2_errs_E1) 0 l1 () else none
noncomputable def gateref2_EventsOf_J2 (v24 : Bool) : Option (Unit ⊕ ((List S_api_Event) × Int)) :=
  if v24 then (some (.inr ([], 13))) else (some (.inl ()))
noncomputable def gateref2_EventsOf_L1 (r8 : ((List S_api_Event))) (k10 : Nat) : Option (Unit ⊕ ((List S_api_Event) × Int)) :=
  if decide (0 < (k10 : Int)) then ((at? r8 ((k10 : Int) - 1)).bind fun (x17 : S_api_Event) => (r8[k10]?).bind fun (x19 : S_api_Event) => (m_gateref2_EventOrder x17 x19).bind fun (r21 : (Int)) => gateref2_EventsOf_J2 (decide (r21 = 0))) else (gateref2_EventsOf_J2 false)
noncomputable def gateref2_EventsOf_E1 (r8 : ((List S_api_Event))) : Option ((List S_api_Event) × Int) :=
  if decide (1000 < (r8.length : Int)) then (some ([], 2)) else (some (r8, 0))
noncomputable def m_gateref2_EventsOf (a1 : (List S_api_Event)) (b2 : (List S_api_Event)) : Option ((List S_api_Event) × Int) :=
  (m_slices_Concat_L_api_Event_api_Event_ [a1, b2]).bind fun (r3 : ((List S_api_Event))) => (m_slices_SortStableFunc_L_api_Event_api_Event_ r3 (fun (a0 : S_api_Event) (a1 : S_api_Event) => m_gateref2_EventOrder a0 a1)).bind fun (r5 : ((List S_api_Event))) => if r5.length = r3.length then ((m_slices_Compact_L_api_Event_api_Event_ r5).bind fun (r8 : ((List S_api_Event))) => if r8.length ≤ 1000000000 then rng (fun (k : Nat) (s : Unit) => gateref2_EventsOf_L1 r8 k) (fun (s : Unit) => gateref2_EventsOf_E1 r8) r8.length 0 () else none) else none
noncomputable def gateref2_RefusedOf_L2 (c1 : S_api_Catalog) (l3 : (List S_api_Event)) (x8 : S_api_App) (k14 : Nat) (x17 : S_api_Product) (l13 : (List Int)) : Option ((List Int) ⊕ ((List Int) ⊕ ((List Int)))) :=
  (m_gateref2_Stages c1 l3 x8.Key x17.Key).bind fun (r20 : ((List S_api_Sub) × (List Int))) => if l13.length + r20.2.length ≤ 1000000000 then (some (.inl (l13 ++ r20.2))) else none
noncomputable def gateref2_RefusedOf_E2 (l13 : (List Int)) : Option ((List Int) ⊕ ((List Int))) :=
  some (.inl l13)
noncomputable def gateref2_RefusedOf_L1 (c1 : S_api_Catalog) (l3 : (List S_api_Event)) (k5 : Nat) (x8 : S_api_App) (l4 : (List Int)) : Option ((List Int) ⊕ ((List Int))) :=
  if c1.Products.length ≤ 1000000000 then forL (fun (k : Nat) (x : S_api_Product) (s : (List Int)) => gateref2_RefusedOf_L2 c1 l3 x8 k x s) (fun (s : (List Int)) => gateref2_RefusedOf_E2 s) 0 c1.Products l4 else none
noncomputable def gateref2_RefusedOf_E1 (l4 : (List Int)) : Option ((List Int)) :=
  (m_slices_Sort_int l4).bind fun (r9 : (List Int)) => some r9
noncomputable def m_gateref2_RefusedOf (c1 : S_api_Catalog) (apps2 : (List S_api_App)) (l3 : (List S_api_Event)) : Option ((List Int)) :=
  if apps2.length ≤ 1000000000 then forL (fun (k : Nat) (x : S_api_App) (s : (List Int)) => gateref2_RefusedOf_L1 c1 l3 k x s) (fun (s : (List Int)) => gateref2_RefusedOf_E1 s) 0 apps2 [] else none
noncomputable def slices_Equal_L_api_Event_api_Event__L1 (s2 : (List S_api_Event)) (k4 : Nat) (x7 : S_api_Event) : Option (Unit ⊕ (Bool)) :=
  (s2[k4]?).bind fun (x10 : S_api_Event) => if (!((x7.At == x10.At) && ((x7.App == x10.App) && ((x7.Product == x10.Product) && ((x7.Kind == x10.Kind) && ((x7.Plan == x10.Plan) && true)))))) then (some (.inr false)) else (some (.inl ()))
noncomputable def slices_Equal_L_api_Event_api_Event__E1 : Option (Bool) :=
  some true
noncomputable def m_slices_Equal_L_api_Event_api_Event_ (s1 : (List S_api_Event)) (s2 : (List S_api_Event)) : Option (Bool) :=
  if decide ((s1.length : Int) ≠ (s2.length : Int)) then some false else (if s1.length ≤ 1000000000 then forL (fun (k : Nat) (x : S_api_Event) (s : Unit) => slices_Equal_L_api_Event_api_Event__L1 s2 k x) (fun (s : Unit) => slices_Equal_L_api_Event_api_Event__E1) 0 s1 () else none)
noncomputable def slices_Equal_L_int_int__L1 (s2 : (List Int)) (k4 : Nat) (x7 : Int) : Option (Unit ⊕ (Bool)) :=
  (s2[k4]?).bind fun (x10 : Int) => if decide (x7 ≠ x10) then (some (.inr false)) else (some (.inl ()))
noncomputable def slices_Equal_L_int_int__E1 : Option (Bool) :=
  some true
noncomputable def m_slices_Equal_L_int_int_ (s1 : (List Int)) (s2 : (List Int)) : Option (Bool) :=
  if decide ((s1.length : Int) ≠ (s2.length : Int)) then some false else (if s1.length ≤ 1000000000 then forL (fun (k : Nat) (x : Int) (s : Unit) => slices_Equal_L_int_int__L1 s2 k x) (fun (s : Unit) => slices_Equal_L_int_int__E1) 0 s1 () else none)
noncomputable def portal_price_J2 (sum3 : Int) (x7 : S_api_Tier) (to14 : Int) : Option (Int ⊕ (Int)) :=
  some (.inl (wr (sum3 + (wr ((max 0 (wr ((wr (to14 - x7.From)) + 1))) * x7.Cents)))))
noncomputable def portal_price_L1 (p1 : S_api_Plan) (calls2 : Int) (k4 : Nat) (x7 : S_api_Tier) (sum3 : Int) : Option (Int ⊕ (Int)) :=
  if decide (((k4 : Int) + 1) < (p1.Tiers.length : Int)) then ((p1.Tiers[(k4 + 1)]?).bind fun (x12 : S_api_Tier) => portal_price_J2 sum3 x7 (min (max 0 (wr (calls2 - p1.Free))) (wr (x12.From - 1)))) else (portal_price_J2 sum3 x7 (max 0 (wr (calls2 - p1.Free))))
noncomputable def portal_price_E1 (sum3 : Int) : Option (Int) :=
  if ((0 : Int) ≤ sum3 ∧ sum3 ≤ 9223372036854775807) ∧ (0 : Int) < 1000 then (some (sum3 / 1000)) else none
noncomputable def m_portal_price (p1 : S_api_Plan) (calls2 : Int) : Option (Int) :=
  if p1.Tiers.length ≤ 1000000000 then forL (fun (k : Nat) (x : S_api_Tier) (s : Int) => portal_price_L1 p1 calls2 k x s) (fun (s : Int) => portal_price_E1 s) 0 p1.Tiers 0 else none
noncomputable def m_portal_Price (c1 : S_api_Catalog) (plan2 : Bs) (calls3 : Int) : Option (Int × Int) :=
  (m_portal_CheckCatalog c1).bind fun (r4 : (Int)) => if decide (r4 ≠ 0) then (some (0, r4)) else ((m_portal_planOf c1 plan2).bind fun (r7 : (S_api_Plan × Bool)) => if !r7.2 then (some (0, 8)) else ((m_kit_Outside calls3 0 1000000000000).bind fun (r10 : (Bool)) => if r10 then (some (0, 1)) else ((m_portal_price r7.1 calls3).bind fun (r13 : (Int)) => some (r13, 0))))
noncomputable def m_gatelaw2_priced  : Option (Bool) :=
  (m_portal_Price (S_api_Catalog.mk ([(S_api_Product.mk [112] [])]) ([(S_api_Plan.mk [113] [112] 0 0 [(S_api_Tier.mk 1 2000)] 0 0 false)])) [113] 3).bind fun (r1 : (Int × Int)) => some ((decide (r1.2 = 0)) && (decide (r1.1 = 6)))
noncomputable def gatelaw2_EventsMerge_J6 (v72 : Bool) : Option (Bool) :=
  some v72
noncomputable def gatelaw2_EventsMerge_J5 (r26 : ((List S_api_Event) × Int)) (r28 : ((List Int) × Int)) (v51 : Int) (v52 : (List S_api_Event)) (v56 : (List Int)) : Option (Bool) :=
  if decide (r26.2 = v51) then ((m_slices_Equal_L_api_Event_api_Event_ r26.1 v52).bind fun (r59 : (Bool)) => if r59 then ((m_slices_Equal_L_int_int_ r28.1 v56).bind fun (r63 : (Bool)) => if r63 then ((m_gatelaw2_priced ).bind fun (r67 : (Bool)) => gatelaw2_EventsMerge_J6 r67) else (gatelaw2_EventsMerge_J6 false)) else (gatelaw2_EventsMerge_J6 false)) else (gatelaw2_EventsMerge_J6 false)
noncomputable def gatelaw2_EventsMerge_J4 (r4 : (S_api_Catalog × (List S_api_App) × (List S_api_Event) × Int × S_gatemake_Stream)) (r26 : ((List S_api_Event) × Int)) (r28 : ((List Int) × Int)) (v51 : Int) (v52 : (List S_api_Event)) : Option (Bool) :=
  if decide (r4.2.2.2.1 = 0) then ((m_gateref2_RefusedOf r4.1 r4.2.1 r4.2.2.1).bind fun (r54 : ((List Int))) => gatelaw2_EventsMerge_J5 r26 r28 v51 v52 r54) else (gatelaw2_EventsMerge_J5 r26 r28 v51 v52 [])
noncomputable def gatelaw2_EventsMerge_J3 (r4 : (S_api_Catalog × (List S_api_App) × (List S_api_Event) × Int × S_gatemake_Stream)) (v25 : (List S_api_Event)) (r26 : ((List S_api_Event) × Int)) (r28 : ((List Int) × Int)) (v42 : Bool) : Option (Bool) :=
  if v42 then some false else ((m_gateref2_EventsFault r4.1 r4.2.1 v25).bind fun (r44 : (Int)) => (m_gatelaw2_errs [r4.2.2.2.1, r44]).bind fun (r46 : (Int)) => if decide (r46 = 0) then ((m_gateref2_EventsOf r4.2.2.1 v25).bind fun (r49 : ((List S_api_Event) × Int)) => gatelaw2_EventsMerge_J4 r4 r26 r28 r49.2 r49.1) else (gatelaw2_EventsMerge_J4 r4 r26 r28 r46 []))
noncomputable def gatelaw2_EventsMerge_J1 (r4 : (S_api_Catalog × (List S_api_App) × (List S_api_Event) × Int × S_gatemake_Stream)) (v25 : (List S_api_Event)) : Option (Bool) :=
  (m_portal_Merge r4.1 r4.2.1 r4.2.2.1 v25).bind fun (r26 : ((List S_api_Event) × Int)) => (m_portal_Refused r4.1 r4.2.1 r4.2.2.1).bind fun (r28 : ((List Int) × Int)) => (m_portal_CheckApps r4.2.1).bind fun (r30 : (Int)) => (m_gateref2_AppsFault r4.2.1).bind fun (r32 : (Int)) => if decide (r30 ≠ r32) then (gatelaw2_EventsMerge_J3 r4 v25 r26 r28 true) else ((m_portal_CheckEvents r4.1 r4.2.1 r4.2.2.1).bind fun (r36 : (Int)) => if decide (r36 ≠ r4.2.2.2.1) then (gatelaw2_EventsMerge_J3 r4 v25 r26 r28 true) else (gatelaw2_EventsMerge_J3 r4 v25 r26 r28 (decide (r28.2 ≠ r4.2.2.2.1))))
noncomputable def gatelaw2_EventsMerge_J2 (r4 : (S_api_Catalog × (List S_api_App) × (List S_api_Event) × Int × S_gatemake_Stream)) (r8 : ((List S_api_Event) × S_gatemake_Stream)) (v15 : Bool) (c16 : (List Int)) (c17 : Int) : Option (Bool) :=
  if v15 then ((m_gatemake_Stream_Next (S_gatemake_Stream.mk c16 c17) (r4.2.2.1.length : Int)).bind fun (r19 : (Int × S_gatemake_Stream)) => (sub? r4.2.2.1 r19.1 (r4.2.2.1.length : Int)).bind fun (l21 : (List S_api_Event)) => (m_slices_Clone l21).bind fun (r23 : ((List S_api_Event))) => gatelaw2_EventsMerge_J1 r4 r23) else (gatelaw2_EventsMerge_J1 r4 r8.1)
noncomputable def m_gatelaw2_EventsMerge (v1 : (List Int)) : Option (Bool) :=
  (m_gatemake_Stream_Range (S_gatemake_Stream.mk v1 0) 0 10).bind fun (r2 : (Int × S_gatemake_Stream)) => (m_gatelaw2_office r2.2 r2.1).bind fun (r4 : (S_api_Catalog × (List S_api_App) × (List S_api_Event) × Int × S_gatemake_Stream)) => (m_gatemake_Stream_Range r4.2.2.2.2 0 6).bind fun (r6 : (Int × S_gatemake_Stream)) => (m_gatemake_Stream_Events r6.2 r4.1 r4.2.1 r6.1).bind fun (r8 : ((List S_api_Event) × S_gatemake_Stream)) => if decide (0 < (r4.2.2.1.length : Int)) then ((m_gatemake_Stream_Flip r8.2 2).bind fun (r12 : (Bool × S_gatemake_Stream)) => gatelaw2_EventsMerge_J2 r4 r8 r12.1 r12.2.L r12.2.at_) else (gatelaw2_EventsMerge_J2 r4 r8 false r8.2.L r8.2.at_)
end Go.Proofs.YtaolapgdgdmapaaGreatDoor
