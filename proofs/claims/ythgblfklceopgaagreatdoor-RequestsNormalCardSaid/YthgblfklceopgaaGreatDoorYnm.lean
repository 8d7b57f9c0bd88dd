/- Plain models of functions. Printed by a program. -/
import Derived.Test.YthgblfklceopgaaGreatDoorMc
import Derived.Test.YthgblfklceopgaaGreatDoorRng
import Derived.Test.YthgblfklceopgaaGreatDoorMk
namespace Go.Proofs.YthgblfklceopgaaGreatDoor
set_option linter.unusedVariables false
set_option maxRecDepth 20000
structure zad where
  L : (List Int)
  at_ : Int
structure zaf where
  Name : Bs
  Value : Bs
structure zar where
  At : Int
  Method : Bs
  Host : Bs
  Path : Bs
  Query : Bs
  From : Bs
  Headers : (List zaf)
  Body : Bs
structure zag where
  Name : Bs
  Value : Bs
structure za0 where
  c_ : Int
  plain_ : Bool
noncomputable def zjj (x6 : Int) : Option (Int) :=
  some x6
noncomputable def zi4 (x1 : Int) (n2 : Int) : Option (Int) :=
  if decide (n2 < 1) then some 0 else (if n2 ≠ 0 then (if decide ((Int.tmod x1 n2) < 0) then (zjj (wr ((Int.tmod x1 n2) + n2))) else (zjj (Int.tmod x1 n2))) else none)
noncomputable def zb0 (s1 : zad) (n2 : Int) : Option (Int × zad) :=
  if decide ((s1.L.length : Int) = 0) then ((zi4 (wr ((wr (s1.at_ + 1)) * 7919)) n2).bind fun (r4 : (Int)) => some (r4, (zad.mk s1.L (wr (s1.at_ + 1))))) else (if (s1.L.length : Int) ≠ 0 then (if ((0 : Int) ≤ (wr ((wr (s1.at_ + 1)) - 1)) ∧ (wr ((wr (s1.at_ + 1)) - 1)) ≤ 9223372036854775807) ∧ (0 : Int) < (s1.L.length : Int) then ((at? s1.L (Int.tmod (wr ((wr (s1.at_ + 1)) - 1)) (s1.L.length : Int))).bind fun (x8 : Int) => (zi4 x8 1073741824).bind fun (r10 : (Int)) => (zi4 (wr (r10 + (wr (((wr ((wr (s1.at_ + 1)) - 1)) / (s1.L.length : Int)) * (wr (7919 + (Int.tmod (wr ((wr (s1.at_ + 1)) - 1)) (s1.L.length : Int)))))))) n2).bind fun (r12 : (Int)) => some (r12, (zad.mk s1.L (wr (s1.at_ + 1))))) else none) else none)
noncomputable def zep (s1 : zad) (l2 : (List Int)) : Option (Int × zad) :=
  (zb0 s1 (l2.length : Int)).bind fun (r3 : (Int × zad)) => (at? l2 r3.1).bind fun (x5 : Int) => some (x5, r3.2)
noncomputable def za6 (s1 : zad) (l2 : (List Bs)) : Option (Bs × zad) :=
  (zb0 s1 (l2.length : Int)).bind fun (r3 : (Int × zad)) => (at? l2 r3.1).bind fun (x5 : Bs) => some (x5, r3.2)
noncomputable def zfk (s1 : zad) : Option (Bs × zad) :=
  (za6 s1 ([[97, 46, 98], [97, 46, 98], [65, 46, 66], [97, 46, 98, 58, 56, 48], [99, 46, 100, 58, 56, 48, 56, 48]])).bind fun (r2 : (Bs × zad)) => some (r2.1, r2.2)
noncomputable def zdh (s1 : zad) (low2 : Int) (high3 : Int) : Option (Int × zad) :=
  if decide (high3 < low2) then (some (low2, s1)) else ((zb0 s1 (wr ((wr (high3 - low2)) + 1))).bind fun (r5 : (Int × zad)) => some (wr (low2 + r5.1), r5.2))
noncomputable def zcy (k8 : Nat) (c5 : (List Int)) (c6 : Int) (l7 : (List zaf)) : Option (((List Int) × Int × (List zaf)) ⊕ ((List zaf) × zad)) :=
  (za6 (zad.mk c5 c6) ([[97, 99, 99, 101, 112, 116], [65, 99, 99, 101, 112, 116], [120, 45, 111, 110, 101], [88, 45, 84, 119, 111], [99, 111, 111, 107, 105, 101], [118, 97, 114, 121], [99, 111, 110, 110, 101, 99, 116, 105, 111, 110], [120, 45, 102, 111, 114, 119, 97, 114, 100, 101, 100, 45, 102, 111, 114], [118, 105, 97], [120, 45, 102, 111, 114, 119, 97, 114, 100, 101, 100, 45, 104, 111, 115, 116], [116, 101]])).bind fun (r12 : (Bs × zad)) => (za6 r12.2 ([[49], [120], [97, 44, 32, 98], [], [120, 45, 111, 110, 101, 44, 32, 99, 108, 111, 115, 101], [103, 119], [49, 46, 50, 46, 51, 46, 52], [53, 46, 54, 46, 55, 46, 56, 44, 32, 57, 46, 57, 46, 57, 46, 57]])).bind fun (r14 : (Bs × zad)) => if l7.length + 1 ≤ 1000000000 then (some (.inl (r14.2.L, r14.2.at_, (l7 ++ [(zaf.mk r12.1 r14.1)])))) else none
noncomputable def zcz (c5 : (List Int)) (c6 : Int) (l7 : (List zaf)) : Option ((List zaf) × zad) :=
  some (l7, (zad.mk c5 c6))
noncomputable def zb4 (s1 : zad) (most2 : Int) : Option ((List zaf) × zad) :=
  (zdh s1 0 most2).bind fun (r3 : (Int × zad)) => if r3.1 ≤ 1000000000 then rng (fun (k : Nat) (s : (List Int) × Int × (List zaf)) => zcy k s.1 s.2.1 s.2.2) (fun (s : (List Int) × Int × (List zaf)) => zcz s.1 s.2.1 s.2.2) r3.1.toNat 0 (r3.2.L, r3.2.at_, []) else none
noncomputable def zb1 (s1 : zad) (n2 : Int) : Option (Bool × zad) :=
  (zb0 s1 n2).bind fun (r3 : (Int × zad)) => some (decide (r3.1 = 0), r3.2)
noncomputable def zcx (r2 : (Int × zad)) (r4 : (Bs × zad)) (r6 : (Bs × zad)) (r8 : (Bs × zad)) (r10 : (Bs × zad)) (r12 : (Bs × zad)) (r14 : ((List zaf) × zad)) (c23 : (List Int)) (c24 : Int) (c25 : Bs) : Option (zar × zad) :=
  some ((zar.mk r2.1 r4.1 r6.1 r8.1 r10.1 r12.1 r14.1 c25), (zad.mk c23 c24))
noncomputable def zd0 (s1 : zad) : Option (zar × zad) :=
  (zep s1 [0, 5, 1000, 60000]).bind fun (r2 : (Int × zad)) => (za6 r2.2 ([[71, 69, 84], [71, 69, 84], [71, 69, 84], [72, 69, 65, 68], [80, 79, 83, 84], [103, 101, 116]])).bind fun (r4 : (Bs × zad)) => (zfk r4.2).bind fun (r6 : (Bs × zad)) => (za6 r6.2 ([[47], [47, 97], [47, 97], [47, 97, 47, 98], [47, 97, 47, 46, 46, 47, 98], [47, 37, 52, 49]])).bind fun (r8 : (Bs × zad)) => (za6 r8.2 ([[], [], [120, 61, 49], [98, 61, 50, 38, 97, 61, 49]])).bind fun (r10 : (Bs × zad)) => (za6 r10.2 ([[49, 48, 46, 48, 46, 48, 46, 49], [49, 48, 46, 48, 46, 48, 46, 49], [57, 46, 57, 46, 57, 46, 57], []])).bind fun (r12 : (Bs × zad)) => (zb4 r12.2 4).bind fun (r14 : ((List zaf) × zad)) => (zb1 r14.2 4).bind fun (r16 : (Bool × zad)) => if r16.1 then ((zd6 [97, 98] 40).bind fun (r19 : (Bs)) => (za6 r16.2 ([[104, 101, 108, 108, 111], [120], r19])).bind fun (r21 : (Bs × zad)) => zcx r2 r4 r6 r8 r10 r12 r14 r21.2.L r21.2.at_ r21.1) else (zcx r2 r4 r6 r8 r10 r12 r14 r16.2.L r16.2.at_ [])
noncomputable def zim (s1 : zad) (low2 : Int) (high3 : Int) : Option (Int × zad) :=
  (zb1 s1 12).bind fun (r4 : (Bool × zad)) => if r4.1 then ((zep r4.2 [wr (low2 - 1), wr (high3 + 1), low2, high3, (-1099511627776), 1099511627776]).bind fun (r7 : (Int × zad)) => some (r7.1, r7.2)) else ((zdh r4.2 low2 high3).bind fun (r9 : (Int × zad)) => some (r9.1, r9.2))
noncomputable def zc0 (s1 : zad) : Option (Bs × zad) :=
  (zd6 [110] 101).bind fun (r2 : (Bs)) => (za6 s1 ([[97, 99, 99, 101, 112, 116], [88, 45, 79, 110, 101], [120, 45, 111, 110, 101], [118, 105, 97], [97], [65], [116, 101], [99, 111, 110, 110, 101, 99, 116, 105, 111, 110], [], [97, 32, 98], [97, 58], [127], r2])).bind fun (r4 : (Bs × zad)) => some (r4.1, r4.2)
noncomputable def zfv (s1 : zad) : Option (Bs × zad) :=
  (zd6 [97] 64).bind fun (r2 : (Bs)) => (za6 s1 ([[97, 46, 98], [97, 46, 98], [65, 46, 66], [115, 104, 111, 112, 46, 101, 120, 97, 109, 112, 108, 101], [97, 46, 98, 58, 56, 48], [97, 46, 98, 58, 52, 52, 51], [97, 46, 98, 58, 56, 48, 56, 48], [120, 45, 49, 46, 121], [49, 46, 50, 46, 51, 46, 52], [], [97, 46, 46, 98], [45, 97, 46, 98], [97, 46, 98, 58, 48], [97, 46, 98, 58, 48, 56], [97, 46, 98, 58, 54, 53, 53, 51, 54], [97, 95, 98], [97, 46, 98, 58], [97, 32, 98], r2])).bind fun (r4 : (Bs × zad)) => some (r4.1, r4.2)
noncomputable def zgv (l4 : (List Bs)) (k8 : Nat) (c5 : (List Int)) (c6 : Int) (l7 : (List Bs)) : Option (((List Int) × Int × (List Bs)) ⊕ (Bs × zad)) :=
  (za6 (zad.mk c5 c6) l4).bind fun (r14 : (Bs × zad)) => if l7.length + 1 ≤ 1000000000 then (some (.inl (r14.2.L, r14.2.at_, (l7 ++ [r14.1])))) else none
noncomputable def zgw (between3 : Bs) (c5 : (List Int)) (c6 : Int) (l7 : (List Bs)) : Option (Bs × zad) :=
  (zc5 l7 between3).bind fun (r11 : (Bs)) => some (r11, (zad.mk c5 c6))
noncomputable def zct (s1 : zad) (many2 : Int) (between3 : Bs) (l4 : (List Bs)) : Option (Bs × zad) :=
  if many2 ≤ 1000000000 then rng (fun (k : Nat) (s : (List Int) × Int × (List Bs)) => zgv l4 k s.1 s.2.1 s.2.2) (fun (s : (List Int) × Int × (List Bs)) => zgw between3 s.1 s.2.1 s.2.2) many2.toNat 0 (s1.L, s1.at_, []) else none
noncomputable def zf9 (s1 : zad) (t2 : Bs) (v3 : Bs) : Option (Bs × zad) :=
  if ((decide (t2 = [])) || (decide (v3 = []))) then (some (v3, s1)) else ((zb0 s1 (t2.length : Int)).bind fun (r5 : (Int × zad)) => (zb0 r5.2 (v3.length : Int)).bind fun (r7 : (Int × zad)) => (at? v3 r7.1).bind fun (x9 : UInt8) => (zb0 r7.2 3).bind fun (r11 : (Int × zad)) => if decide (r11.1 = 0) then ((sub? t2 0 r5.1).bind fun (l14 : Bs) => if l14.length + (encL (IntKind.wrap .i32 (x9.toNat : Int))).length ≤ 1000000000 then ((sub? t2 (wr (r5.1 + 1)) (t2.length : Int)).bind fun (l17 : Bs) => if (l14 ++ (encL (IntKind.wrap .i32 (x9.toNat : Int)))).length + l17.length ≤ 1000000000 then (some (((l14 ++ (encL (IntKind.wrap .i32 (x9.toNat : Int)))) ++ l17), r11.2)) else none) else none) else (if decide (r11.1 = 1) then ((sub? t2 0 r5.1).bind fun (l21 : Bs) => if l21.length + (encL (IntKind.wrap .i32 (x9.toNat : Int))).length ≤ 1000000000 then ((sub? t2 r5.1 (t2.length : Int)).bind fun (l24 : Bs) => if (l21 ++ (encL (IntKind.wrap .i32 (x9.toNat : Int)))).length + l24.length ≤ 1000000000 then (some (((l21 ++ (encL (IntKind.wrap .i32 (x9.toNat : Int)))) ++ l24), r11.2)) else none) else none) else ((sub? t2 0 r5.1).bind fun (l27 : Bs) => (sub? t2 (wr (r5.1 + 1)) (t2.length : Int)).bind fun (l29 : Bs) => if l27.length + l29.length ≤ 1000000000 then (some ((l27 ++ l29), r11.2)) else none)))
noncomputable def zdu (p23 : Bs) (c24 : (List Int)) (c25 : Int) : Option (Bs × zad) :=
  some (p23, (zad.mk c24 c25))
noncomputable def zc2 (p15 : Bs) (c16 : (List Int)) (c17 : Int) : Option (Bs × zad) :=
  (zb1 (zad.mk c16 c17) 12).bind fun (r18 : (Bool × zad)) => if r18.1 then ((zf9 r18.2 p15 [47, 46, 37, 50, 102, 65]).bind fun (r21 : (Bs × zad)) => zdu r21.1 r21.2.L r21.2.at_) else (zdu p15 r18.2.L r18.2.at_)
noncomputable def zfu (s1 : zad) : Option (Bs × zad) :=
  (zdh s1 0 4).bind fun (r2 : (Int × zad)) => (zct r2.2 r2.1 [47] ([[97], [98], [37, 52, 49], [37, 50, 102], [37, 55, 101], [46], [46, 46], [], [120, 59, 121], [99, 37, 50, 48, 100], [37, 99, 51, 37, 97, 52], [65], [97, 46, 98], [126]])).bind fun (r4 : (Bs × zad)) => if [47].length + r4.1.length ≤ 1000000000 then ((zb1 r4.2 12).bind fun (r7 : (Bool × zad)) => if r7.1 then ((zd6 [37, 50, 48] 340).bind fun (r10 : (Bs)) => if [47].length + r10.length ≤ 1000000000 then ((za6 r7.2 ([[], [97], [47, 97, 63, 98], [47, 97, 35], [47, 37], [47, 37, 52], [47, 37, 122, 122], [47, 127], [47, 97, 32, 98], ([47] ++ r10)])).bind fun (r13 : (Bs × zad)) => zc2 r13.1 r13.2.L r13.2.at_) else none) else (zc2 ([47] ++ r4.1) r7.2.L r7.2.at_)) else none
noncomputable def zdk (q13 : Bs) (c14 : (List Int)) (c15 : Int) : Option (Bs × zad) :=
  some (q13, (zad.mk c14 c15))
noncomputable def zfl (s1 : zad) : Option (Bs × zad) :=
  (zdh s1 0 4).bind fun (r2 : (Int × zad)) => (zct r2.2 r2.1 [38] ([[97, 61, 49], [98, 61, 50], [97, 61], [61, 120], [61], [99], [], [97, 61, 37, 52, 49, 43, 37, 50, 66], [100, 61, 120, 37, 50, 54, 121], [98, 61, 37, 99, 51], [97, 61, 49, 61, 50], [97, 63, 98, 61, 47]])).bind fun (r4 : (Bs × zad)) => (zb1 r4.2 12).bind fun (r6 : (Bool × zad)) => if r6.1 then ((zct r6.2 101 [38] ([[120]])).bind fun (r9 : (Bs × zad)) => (za6 r9.2 ([[35], [97, 37], [37, 103, 49, 61, 50], [97, 32, 98], [128], r9.1])).bind fun (r11 : (Bs × zad)) => zdk r11.1 r11.2.L r11.2.at_) else (zdk r4.1 r6.2.L r6.2.at_)
noncomputable def zc1 (s1 : zad) : Option (Bs × zad) :=
  (zd6 [118] 2001).bind fun (r2 : (Bs)) => (za6 s1 ([[49], [120], [97, 44, 32, 98], [], [116, 101, 120, 116, 47, 104, 116, 109, 108], [99, 108, 111, 115, 101], [120, 45, 111, 110, 101], [103, 119, 44, 32, 98], [49, 46, 50, 46, 51, 46, 52, 44, 32, 53, 46, 54, 46, 55, 46, 56], [32, 120], [120, 32], [97, 9, 98], [128], r2])).bind fun (r4 : (Bs × zad)) => some (r4.1, r4.2)
noncomputable def zhu (k20 : Nat) (l19 : (List zaf)) : Option ((List zaf) ⊕ ((List zaf) × zad)) :=
  if l19.length + 1 ≤ 1000000000 then (some (.inl (l19 ++ ([(zaf.mk [110] [118])])))) else none
noncomputable def zc7 (out25 : (List zaf)) (c26 : (List Int)) (c27 : Int) : Option ((List zaf) × zad) :=
  some (out25, (zad.mk c26 c27))
noncomputable def zhv (r16 : (Bool × zad)) (l19 : (List zaf)) : Option ((List zaf) × zad) :=
  zc7 l19 r16.2.L r16.2.at_
noncomputable def zc8 (out13 : (List zaf)) (c14 : (List Int)) (c15 : Int) : Option ((List zaf) × zad) :=
  (zb1 (zad.mk c14 c15) 60).bind fun (r16 : (Bool × zad)) => if r16.1 then (if 51 ≤ 1000000000 then rng (fun (k : Nat) (s : (List zaf)) => zhu k s) (fun (s : (List zaf)) => zhv r16 s) 51 0 out13 else none) else (zc7 out13 r16.2.L r16.2.at_)
noncomputable def zeg (s1 : zad) (most2 : Int) : Option ((List zaf) × zad) :=
  (zb4 s1 most2).bind fun (r3 : ((List zaf) × zad)) => (zb1 r3.2 10).bind fun (r5 : (Bool × zad)) => if r5.1 then ((zc0 r5.2).bind fun (r8 : (Bs × zad)) => (zc1 r8.2).bind fun (r10 : (Bs × zad)) => if r3.1.length + 1 ≤ 1000000000 then (zc8 (r3.1 ++ [(zaf.mk r8.1 r10.1)]) r10.2.L r10.2.at_) else none) else (zc8 r3.1 r5.2.L r5.2.at_)
noncomputable def zbg (c34 : (List Int)) (c35 : Int) (c36 : Int) (c37 : Bs) (c38 : Bs) (c39 : Bs) (c40 : Bs) (c41 : Bs) (c42 : (List zaf)) (c43 : Bs) : Option (zar × zad) :=
  some ((zar.mk c36 c37 c38 c39 c40 c41 c42 c43), (zad.mk c34 c35))
noncomputable def zf8 (s1 : zad) : Option (zar × zad) :=
  (zd0 s1).bind fun (r2 : (zar × zad)) => (zb1 r2.2 6).bind fun (r4 : (Bool × zad)) => if r4.1 then ((zb0 r4.2 8).bind fun (r7 : (Int × zad)) => if decide (r7.1 = 0) then ((zim r7.2 0 1000).bind fun (r10 : (Int × zad)) => zbg r10.2.L r10.2.at_ r10.1 r2.1.Method r2.1.Host r2.1.Path r2.1.Query r2.1.From r2.1.Headers r2.1.Body) else (if decide (r7.1 = 1) then ((zc0 r7.2).bind fun (r13 : (Bs × zad)) => zbg r13.2.L r13.2.at_ r2.1.At r13.1 r2.1.Host r2.1.Path r2.1.Query r2.1.From r2.1.Headers r2.1.Body) else (if decide (r7.1 = 2) then ((zfv r7.2).bind fun (r16 : (Bs × zad)) => zbg r16.2.L r16.2.at_ r2.1.At r2.1.Method r16.1 r2.1.Path r2.1.Query r2.1.From r2.1.Headers r2.1.Body) else (if decide (r7.1 = 3) then ((zfu r7.2).bind fun (r19 : (Bs × zad)) => zbg r19.2.L r19.2.at_ r2.1.At r2.1.Method r2.1.Host r19.1 r2.1.Query r2.1.From r2.1.Headers r2.1.Body) else (if decide (r7.1 = 4) then ((zfl r7.2).bind fun (r22 : (Bs × zad)) => zbg r22.2.L r22.2.at_ r2.1.At r2.1.Method r2.1.Host r2.1.Path r22.1 r2.1.From r2.1.Headers r2.1.Body) else (if decide (r7.1 = 5) then ((zc1 r7.2).bind fun (r25 : (Bs × zad)) => zbg r25.2.L r25.2.at_ r2.1.At r2.1.Method r2.1.Host r2.1.Path r2.1.Query r25.1 r2.1.Headers r2.1.Body) else (if decide (r7.1 = 6) then ((zeg r7.2 4).bind fun (r28 : ((List zaf) × zad)) => zbg r28.2.L r28.2.at_ r2.1.At r2.1.Method r2.1.Host r2.1.Path r2.1.Query r2.1.From r28.1 r2.1.Body) else ((zep r7.2 [20000, 20001]).bind fun (r30 : (Int × zad)) => (zd6 [98] r30.1).bind fun (r32 : (Bs)) => zbg r30.2.L r30.2.at_ r2.1.At r2.1.Method r2.1.Host r2.1.Path r2.1.Query r2.1.From r2.1.Headers r32)))))))) else (zbg r4.2.L r4.2.at_ r2.1.At r2.1.Method r2.1.Host r2.1.Path r2.1.Query r2.1.From r2.1.Headers r2.1.Body)
noncomputable def zl2 (n1 : Int) : Option (Bool) :=
  some ((decide (0 ≤ n1)) && (decide (n1 < 345686400000)))
noncomputable def zj1 (c1 : Int) : Option (Bool) :=
  some (((decide (97 ≤ c1)) && (decide (c1 ≤ 122))) || ((decide (65 ≤ c1)) && (decide (c1 ≤ 90))))
noncomputable def zjf (c1 : Int) : Option (Bool) :=
  some ((decide (48 ≤ c1)) && (decide (c1 ≤ 57)))
noncomputable def zf4 (v14 : Bool) : Option (Bool) :=
  some v14
noncomputable def zil (c1 : Int) : Option (Bool) :=
  (zj1 c1).bind fun (r2 : (Bool)) => if r2 then (zf4 true) else ((zjf c1).bind fun (r6 : (Bool)) => if r6 then (zf4 true) else ((zgb [33, 35, 36, 37, 38, 39, 42, 43, 45, 46, 94, 95, 96, 124, 126] c1).bind fun (r10 : (Int)) => zf4 (decide (0 ≤ r10))))
noncomputable def zlb (k2 : Nat) (x5 : UInt8) : Option (Unit ⊕ (Bool)) :=
  (zil (x5.toNat : Int)).bind fun (r8 : (Bool)) => if !r8 then (some (.inr false)) else (some (.inl ()))
noncomputable def zmm (s1 : Bs) : Option (Bool) :=
  some ((decide (s1 ≠ [])) && (decide ((s1.length : Int) ≤ 100)))
noncomputable def zh9 (s1 : Bs) : Option (Bool) :=
  if s1.length ≤ 1000000000 then forL (fun (k : Nat) (x : UInt8) (s : Unit) => zlb k x) (fun (s : Unit) => zmm s1) 0 s1 () else none
noncomputable def zba (c1 : Int) : Option (Int) :=
  some (or_ .u8 c1 32)
noncomputable def zcr (v47 : Int) (v85 : Int) : Option ((Int × Int) ⊕ (Bool)) :=
  some (.inl (v85, wr (v47 + 1)))
noncomputable def zbh (v14 : Bs) (v46 : Int) (v47 : Int) (v78 : Bool) : Option ((Int × Int) ⊕ (Bool)) :=
  if v78 then (zcr v47 48) else ((at? v14 v47).bind fun (x80 : UInt8) => if decide ((x80.toNat : Int) = 95) then (if decide (v46 ≠ 48) then (some (.inr false)) else (zcr v47 95)) else (if decide (v46 = 95) then (some (.inr false)) else (zcr v47 33)))
noncomputable def zfb (v86 : Int) : Option (Bool) :=
  some (decide (v86 ≠ 95))
noncomputable def zhs (v14 : Bs) (v45 : Bool) (v46 : Int) (v47 : Int) : Option ((Int × Int) ⊕ (Bool)) :=
  if decide (v47 < (v14.length : Int)) then ((at? v14 v47).bind fun (x50 : UInt8) => if decide (48 ≤ (x50.toNat : Int)) then (if decide ((x50.toNat : Int) ≤ 57) then (zbh v14 v46 v47 true) else (if v45 then ((zba (x50.toNat : Int)).bind fun (r58 : (Int)) => if decide (97 ≤ r58) then ((zba (x50.toNat : Int)).bind fun (r62 : (Int)) => zbh v14 v46 v47 (decide (r62 ≤ 102))) else (zbh v14 v46 v47 false)) else (zbh v14 v46 v47 false))) else (if v45 then ((zba (x50.toNat : Int)).bind fun (r70 : (Int)) => if decide (97 ≤ r70) then ((zba (x50.toNat : Int)).bind fun (r74 : (Int)) => zbh v14 v46 v47 (decide (r74 ≤ 102))) else (zbh v14 v46 v47 false)) else (zbh v14 v46 v47 false))) else (Option.map .inr (zfb v46))
noncomputable def zdl (v14 : Bs) (v43 : Int) (v44 : Int) (v45 : Bool) : Option (Bool) :=
  iter (fun (s : Int × Int) => zhs v14 v45 s.1 s.2) (v43, v44)
noncomputable def zbr (v14 : Bs) (v37 : Bool) : Option (Bool) :=
  if v37 then ((v14[1]?).bind fun (x39 : UInt8) => (zba (x39.toNat : Int)).bind fun (r41 : (Int)) => zdl v14 48 2 (decide (r41 = 120))) else (zdl v14 94 0 false)
noncomputable def zdm (v14 : Bs) : Option (Bool) :=
  if decide (2 ≤ (v14.length : Int)) then ((v14[0]?).bind fun (x17 : UInt8) => if decide ((x17.toNat : Int) = 48) then ((v14[1]?).bind fun (x21 : UInt8) => (zba (x21.toNat : Int)).bind fun (r23 : (Int)) => if decide (r23 = 98) then (zbr v14 true) else ((zba (x21.toNat : Int)).bind fun (r27 : (Int)) => if decide (r27 = 111) then (zbr v14 true) else ((zba (x21.toNat : Int)).bind fun (r31 : (Int)) => zbr v14 (decide (r31 = 120))))) else (zbr v14 false)) else (zbr v14 false)
noncomputable def zcs (v1 : Bs) (v10 : Bool) : Option (Bool) :=
  if v10 then ((sub? v1 1 (v1.length : Int)).bind fun (l12 : Bs) => zdm l12) else (zdm v1)
noncomputable def zia (v1 : Bs) : Option (Bool) :=
  if decide (1 ≤ (v1.length : Int)) then ((v1[0]?).bind fun (x4 : UInt8) => if decide ((x4.toNat : Int) = 45) then (zcs v1 true) else (zcs v1 (decide ((x4.toNat : Int) = 43)))) else (zcs v1 false)
noncomputable def zd7 (v87 : Bool) (v88 : Int) : Option ((Bool × Int) ⊕ (Int × Int)) :=
  some (.inl (v87, v88))
noncomputable def zd2 (v46 : Int) (v49 : Int) (v53 : Int) (v55 : Bool) (v56 : Int) (v83 : Int) : Option ((Bool × Int) ⊕ (Int × Int)) :=
  if decide ((IntKind.wrap .u8 v46) ≤ v83) then (some (.inr (0, 2))) else (if decide (v53 ≤ v56) then (some (.inr (IntKind.wrap .u64 ((shl_ .u64 1 (IntKind.wrap .u64 v49)) - 1), 1))) else (if ((decide ((IntKind.wrap .u64 ((IntKind.wrap .u64 (v56 * (IntKind.wrap .u64 v46))) + (IntKind.wrap .u64 v83))) < (IntKind.wrap .u64 (v56 * (IntKind.wrap .u64 v46))))) || (decide ((IntKind.wrap .u64 ((shl_ .u64 1 (IntKind.wrap .u64 v49)) - 1)) < (IntKind.wrap .u64 ((IntKind.wrap .u64 (v56 * (IntKind.wrap .u64 v46))) + (IntKind.wrap .u64 v83)))))) then (some (.inr (IntKind.wrap .u64 ((shl_ .u64 1 (IntKind.wrap .u64 v49)) - 1), 1))) else (zd7 v55 (IntKind.wrap .u64 ((IntKind.wrap .u64 (v56 * (IntKind.wrap .u64 v46))) + (IntKind.wrap .u64 v83))))))
noncomputable def zd1 (v46 : Int) (v49 : Int) (v53 : Int) (v55 : Bool) (v56 : Int) (x60 : Int) (v79 : Bool) : Option ((Bool × Int) ⊕ (Int × Int)) :=
  if v79 then ((zba x60).bind fun (r81 : (Int)) => zd2 v46 v49 v53 v55 v56 (IntKind.wrap .u8 ((IntKind.wrap .u8 (r81 - 97)) + 10))) else (some (.inr (0, 2)))
noncomputable def zbt (v2 : Int) (v46 : Int) (v49 : Int) (v53 : Int) (k57 : Nat) (x60 : Int) (v55 : Bool) (v56 : Int) : Option ((Bool × Int) ⊕ (Int × Int)) :=
  if ((decide (x60 = 95)) && (decide (v2 = 0))) then (zd7 true v56) else (if ((decide (48 ≤ x60)) && (decide (x60 ≤ 57))) then (zd2 v46 v49 v53 v55 v56 (IntKind.wrap .u8 (x60 - 48))) else ((zba x60).bind fun (r72 : (Int)) => if decide (97 ≤ r72) then ((zba x60).bind fun (r76 : (Int)) => zd1 v46 v49 v53 v55 v56 x60 (decide (r76 ≤ 122))) else (zd1 v46 v49 v53 v55 v56 x60 false)))
noncomputable def zdc (v56 : Int) (v66 : Bool) : Option (Int × Int) :=
  if v66 then (some (0, 2)) else (some (v56, 0))
noncomputable def zde (v1 : Bs) (v55 : Bool) (v56 : Int) : Option (Int × Int) :=
  if v55 then ((zia v1).bind fun (r63 : (Bool)) => zdc v56 (!r63)) else (zdc v56 false)
noncomputable def zdd (v1 : Bs) (v2 : Int) (v45 : Bs) (v46 : Int) (v49 : Int) (v53 : Int) : Option (Int × Int) :=
  if (0 : Int) ≤ (IntKind.wrap .u64 v49) then (if (zdv v45).length ≤ 1000000000 then forL (fun (k : Nat) (x : Int) (s : Bool × Int) => zbt v2 v46 v49 v53 k x s.1 s.2) (fun (s : Bool × Int) => zde v1 s.1 s.2) 0 (zdv v45) (false, 0) else none) else none
noncomputable def zd8 (v1 : Bs) (v2 : Int) (v45 : Bs) (v46 : Int) (v49 : Int) : Option (Int × Int) :=
  if decide (v46 = 10) then (zdd v1 v2 v45 v46 v49 1844674407370955162) else (if decide (v46 = 16) then (zdd v1 v2 v45 v46 v49 1152921504606846976) else (if (IntKind.wrap .u64 v46) ≠ 0 then (zdd v1 v2 v45 v46 v49 (IntKind.wrap .u64 ((IntKind.wrap .u64 (Int.tdiv 18446744073709551615 (IntKind.wrap .u64 v46))) + 1))) else none))
noncomputable def zbu (v1 : Bs) (v2 : Int) (v3 : Int) (v45 : Bs) (v46 : Int) : Option (Int × Int) :=
  if decide (v3 = 0) then (zd8 v1 v2 v45 v46 64) else (if ((decide (v3 < 0)) || (decide (64 < v3))) then (some (0, 4)) else (zd8 v1 v2 v45 v46 v3))
noncomputable def zd9 (v1 : Bs) (v2 : Int) (v3 : Int) (v39 : Bool) : Option (Int × Int) :=
  if v39 then ((sub? v1 2 (v1.length : Int)).bind fun (l41 : Bs) => zbu v1 v2 v3 l41 16) else ((sub? v1 1 (v1.length : Int)).bind fun (l43 : Bs) => zbu v1 v2 v3 l43 8)
noncomputable def zea (v1 : Bs) (v2 : Int) (v3 : Int) (v28 : Bool) : Option (Int × Int) :=
  if v28 then ((sub? v1 2 (v1.length : Int)).bind fun (l30 : Bs) => zbu v1 v2 v3 l30 8) else (if decide (3 ≤ (v1.length : Int)) then ((v1[1]?).bind fun (x34 : UInt8) => (zba (x34.toNat : Int)).bind fun (r36 : (Int)) => zd9 v1 v2 v3 (decide (r36 = 120))) else (zd9 v1 v2 v3 false))
noncomputable def zeb (v1 : Bs) (v2 : Int) (v3 : Int) (v17 : Bool) : Option (Int × Int) :=
  if v17 then ((sub? v1 2 (v1.length : Int)).bind fun (l19 : Bs) => zbu v1 v2 v3 l19 2) else (if decide (3 ≤ (v1.length : Int)) then ((v1[1]?).bind fun (x23 : UInt8) => (zba (x23.toNat : Int)).bind fun (r25 : (Int)) => zea v1 v2 v3 (decide (r25 = 111))) else (zea v1 v2 v3 false))
noncomputable def zdi (v1 : Bs) (v2 : Int) (v3 : Int) : Option (Int × Int) :=
  if decide (v1 = []) then (some (0, 2)) else (if ((decide (2 ≤ v2)) && (decide (v2 ≤ 36))) then (zbu v1 v2 v3 v1 v2) else (if decide (v2 = 0) then ((v1[0]?).bind fun (x7 : UInt8) => if decide ((x7.toNat : Int) = 48) then (if decide (3 ≤ (v1.length : Int)) then ((v1[1]?).bind fun (x12 : UInt8) => (zba (x12.toNat : Int)).bind fun (r14 : (Int)) => zeb v1 v2 v3 (decide (r14 = 98))) else (zeb v1 v2 v3 false)) else (zbu v1 v2 v3 v1 10)) else (some (0, 3))))
noncomputable def zew (v31 : Int) : Option (Int × Int) :=
  some (v31, 0)
noncomputable def zex (v14 : Bool) (r15 : (Int × Int)) (v24 : Int) : Option (Int × Int) :=
  if (0 : Int) ≤ (IntKind.wrap .u64 (wr (v24 - 1))) then (if ((!v14) && (decide ((shl_ .u64 1 (IntKind.wrap .u64 (wr (v24 - 1)))) ≤ r15.1))) then (some (IntKind.wrap .i64 (IntKind.wrap .u64 ((shl_ .u64 1 (IntKind.wrap .u64 (wr (v24 - 1)))) - 1)), 1)) else (if (v14 && (decide ((shl_ .u64 1 (IntKind.wrap .u64 (wr (v24 - 1)))) < r15.1))) then (if -9223372036854775807 ≤ IntKind.wrap .i64 (shl_ .u64 1 (IntKind.wrap .u64 (wr (v24 - 1)))) ∧ IntKind.wrap .i64 (shl_ .u64 1 (IntKind.wrap .u64 (wr (v24 - 1)))) ≤ 9223372036854775807 then (some ((-(IntKind.wrap .i64 (shl_ .u64 1 (IntKind.wrap .u64 (wr (v24 - 1)))))), 1)) else none) else (if v14 then (if -9223372036854775807 ≤ IntKind.wrap .i64 r15.1 ∧ IntKind.wrap .i64 r15.1 ≤ 9223372036854775807 then (zew (-(IntKind.wrap .i64 r15.1))) else none) else (zew (IntKind.wrap .i64 r15.1))))) else none
noncomputable def zey (v3 : Int) (v14 : Bool) (r15 : (Int × Int)) (v21 : Bool) : Option (Int × Int) :=
  if v21 then (some (0, r15.2)) else (if decide (v3 = 0) then (zex v14 r15 64) else (zex v14 r15 v3))
noncomputable def zdj (v2 : Int) (v3 : Int) (v13 : Bs) (v14 : Bool) : Option (Int × Int) :=
  (zdi v13 v2 v3).bind fun (r15 : (Int × Int)) => if decide (r15.2 ≠ 0) then (if (0 : Int) ≤ r15.2 ∧ r15.2 ≤ (4 : Int) then (zey v3 v14 r15 (decide (r15.2 ≠ 1))) else none) else (zey v3 v14 r15 false)
noncomputable def zjl (v1 : Bs) (v2 : Int) (v3 : Int) : Option (Int × Int) :=
  if decide (v1 = []) then (some (0, 2)) else ((v1[0]?).bind fun (x5 : UInt8) => if decide ((x5.toNat : Int) = 43) then ((sub? v1 1 (v1.length : Int)).bind fun (l8 : Bs) => zdj v2 v3 l8 false) else (if decide ((x5.toNat : Int) = 45) then ((sub? v1 1 (v1.length : Int)).bind fun (l11 : Bs) => zdj v2 v3 l11 true) else (zdj v2 v3 v1 false)))
noncomputable def zkq (k15 : Nat) (x18 : Int) (v14 : Int) : Option (Int ⊕ (Int × Int)) :=
  if decide (9 < (IntKind.wrap .u8 (x18 - 48))) then (some (.inr (0, 2))) else (some (.inl (wr ((wr (v14 * 10)) + (IntKind.wrap .i64 (IntKind.wrap .u8 (x18 - 48)))))))
noncomputable def zgr (v23 : Int) : Option (Int × Int) :=
  some (v23, 0)
noncomputable def zkr (v1 : Bs) (v14 : Int) : Option (Int × Int) :=
  (v1[0]?).bind fun (x19 : UInt8) => if decide ((x19.toNat : Int) = 45) then (if -9223372036854775807 ≤ v14 ∧ v14 ≤ 9223372036854775807 then (zgr (-v14)) else none) else (zgr v14)
noncomputable def zgt (v1 : Bs) (v13 : Bs) : Option (Int × Int) :=
  if (zdv v13).length ≤ 1000000000 then forL (fun (k : Nat) (x : Int) (s : Int) => zkq k x s) (fun (s : Int) => zkr v1 s) 0 (zdv v13) 0 else none
noncomputable def zgs (v1 : Bs) (v8 : Bool) : Option (Int × Int) :=
  if v8 then ((sub? v1 1 (v1.length : Int)).bind fun (l10 : Bs) => if decide ((l10.length : Int) < 1) then (some (0, 2)) else (zgt v1 l10)) else (zgt v1 v1)
noncomputable def zkv (v1 : Bs) : Option (Int × Int) :=
  if ((false && ((decide (0 < (v1.length : Int))) && (decide ((v1.length : Int) < 10)))) || (true && ((decide (0 < (v1.length : Int))) && (decide ((v1.length : Int) < 19))))) then ((v1[0]?).bind fun (x3 : UInt8) => if decide ((x3.toNat : Int) = 45) then (zgs v1 true) else (zgs v1 (decide ((x3.toNat : Int) = 43)))) else ((zjl v1 10 0).bind fun (r27 : (Int × Int)) => some (r27.1, r27.2))
noncomputable def znd (s1 : Bs) : Option (Int × Int) :=
  (zkv s1).bind fun (r2 : (Int × Int)) => if decide (r2.2 ≠ 0) then ((zm2 [65, 116, 111, 105] s1 0 0 r2.2).bind fun (r5 : (Int)) => some (r2.1, r5)) else (some (r2.1, 0))
noncomputable def zmp (v29 : Bool) : Option (Unit ⊕ (Int × Bool)) :=
  if v29 then (some (.inr (0, false))) else (some (.inl ()))
noncomputable def zps (i18 : Nat) (x21 : UInt8) : Option (Unit ⊕ (Int × Bool)) :=
  if decide ((x21.toNat : Int) < 48) then (zmp true) else (zmp (decide (57 < (x21.toNat : Int))))
noncomputable def zpt (s1 : Bs) : Option (Int × Bool) :=
  (znd s1).bind fun (r22 : (Int × Int)) => some (r22.1, decide (r22.2 = 0))
noncomputable def zkw (s1 : Bs) (r3 : (Bs)) (v16 : Bool) : Option (Int × Bool) :=
  if v16 then (some (0, false)) else (if r3.length ≤ 1000000000 then forL (fun (k : Nat) (x : UInt8) (s : Unit) => zps k x) (fun (s : Unit) => zpt s1) 0 r3 () else none)
noncomputable def zqo (s1 : Bs) (most2 : Int) : Option (Int × Bool) :=
  (zka s1 [45]).bind fun (r3 : (Bs)) => if decide (r3 = []) then (zkw s1 r3 true) else (if decide (most2 < (r3.length : Int)) then (zkw s1 r3 true) else ((r3[0]?).bind fun (x9 : UInt8) => if decide ((x9.toNat : Int) = 48) then (zkw s1 r3 (decide (s1 ≠ [48]))) else (zkw s1 r3 false)))
noncomputable def zrm (s1 : Bs) : Option (Int × Bool) :=
  (zqo s1 9).bind fun (r2 : (Int × Bool)) => some (r2.1, r2.2)
noncomputable def zpr (n1 : Int) (low2 : Int) (high3 : Int) : Option (Bool) :=
  some ((decide (n1 < low2)) || (decide (high3 < n1)))
noncomputable def zg5 (v19 : Bool) : Option (Bool) :=
  some v19
noncomputable def zis (v32 : Bool) : Option (Unit ⊕ (Bool)) :=
  if v32 then (some (.inr false)) else (some (.inl ()))
noncomputable def zmk (k2 : Nat) (x5 : UInt8) : Option (Unit ⊕ (Bool)) :=
  (zj1 (x5.toNat : Int)).bind fun (r22 : (Bool)) => if !r22 then ((zjf (x5.toNat : Int)).bind fun (r26 : (Bool)) => if !r26 then (zis (decide ((x5.toNat : Int) ≠ 45))) else (zis false)) else (zis false)
noncomputable def zml (s1 : Bs) : Option (Bool) :=
  if decide (s1 ≠ []) then (if decide ((s1.length : Int) ≤ 63) then ((s1[0]?).bind fun (x10 : UInt8) => if decide ((x10.toNat : Int) ≠ 45) then ((at? s1 (wr ((s1.length : Int) - 1))).bind fun (x14 : UInt8) => zg5 (decide ((x14.toNat : Int) ≠ 45))) else (zg5 false)) else (zg5 false)) else (zg5 false)
noncomputable def zm3 (s1 : Bs) : Option (Bool) :=
  if s1.length ≤ 1000000000 then forL (fun (k : Nat) (x : UInt8) (s : Unit) => zmk k x) (fun (s : Unit) => zml s1) 0 s1 () else none
noncomputable def zh1 (v23 : Bool) : Option (Bool) :=
  some v23
noncomputable def zlr (k6 : Nat) (x9 : Bs) : Option (Unit ⊕ (Bool)) :=
  (zm3 x9).bind fun (r26 : (Bool)) => if !r26 then (some (.inr false)) else (some (.inl ()))
noncomputable def zls (s1 : Bs) (r2 : (Bs × Bs × Bool)) : Option (Bool) :=
  (zrm r2.2.1).bind fun (r10 : (Int × Bool)) => if decide ((s1.length : Int) ≤ 255) then (if !r2.2.2 then (zh1 true) else (if r10.2 then ((zpr r10.1 1 65535).bind fun (r18 : (Bool)) => zh1 (!r18)) else (zh1 false))) else (zh1 false)
noncomputable def zi1 (s1 : Bs) : Option (Bool) :=
  (zga s1 [58]).bind fun (r2 : (Bs × Bs × Bool)) => (zb8 r2.1 [46]).bind fun (r4 : ((List Bs))) => if r4.length ≤ 1000000000 then forL (fun (k : Nat) (x : Bs) (s : Unit) => zlr k x) (fun (s : Unit) => zls s1 r2) 0 r4 () else none
noncomputable def zir (v13 : Bool) : Option (Unit ⊕ (Bool)) :=
  if v13 then (some (.inr false)) else (some (.inl ()))
noncomputable def zk9 (low2 : Int) (high3 : Int) (k4 : Nat) (x7 : UInt8) : Option (Unit ⊕ (Bool)) :=
  if decide ((x7.toNat : Int) < low2) then (zir true) else (zir (decide (high3 < (x7.toNat : Int))))
noncomputable def zla : Option (Bool) :=
  some true
noncomputable def zfr (s1 : Bs) (low2 : Int) (high3 : Int) : Option (Bool) :=
  if s1.length ≤ 1000000000 then forL (fun (k : Nat) (x : UInt8) (s : Unit) => zk9 low2 high3 k x) (fun (s : Unit) => zla) 0 s1 () else none
noncomputable def zei (v17 : Bool) : Option (Int) :=
  if v17 then some 3 else some 0
noncomputable def zgd (s1 : Bs) : Option (Int) :=
  if decide (1000 < (s1.length : Int)) then (zei true) else ((zmb s1 [47]).bind fun (r4 : (Bool)) => if !r4 then (zei true) else ((zfr s1 33 126).bind fun (r8 : (Bool)) => if !r8 then (zei true) else ((zgm s1 [63, 35]).bind fun (r12 : (Bool)) => zei r12)))
noncomputable def zcg (v12 : Bool) : Option (Int) :=
  if v12 then some 3 else some 0
noncomputable def zcd (s1 : Bs) : Option (Int) :=
  if decide (1000 < (s1.length : Int)) then (zcg true) else ((zfr s1 33 126).bind fun (r4 : (Bool)) => if !r4 then (zcg true) else ((zf1 s1 [35]).bind fun (r8 : (Bool)) => zcg r8))
noncomputable def zgi (s14 : Bs) : Option (Bs) :=
  some s14
noncomputable def zdq (s3 : Bs) (v10 : Bool) : Option (Bs ⊕ (Bs)) :=
  if v10 then ((sub? s3 0 (wr ((s3.length : Int) - 1))).bind fun (l12 : Bs) => some (.inl l12)) else (Option.map .inr (zgi s3))
noncomputable def zgh (c2 : Int) (s3 : Bs) : Option (Bs ⊕ (Bs)) :=
  if decide (0 < (s3.length : Int)) then ((at? s3 (wr ((s3.length : Int) - 1))).bind fun (x7 : UInt8) => zdq s3 (decide ((x7.toNat : Int) = c2))) else (zdq s3 false)
noncomputable def zdg (s1 : Bs) (c2 : Int) : Option (Bs) :=
  iter (fun (s : Bs) => zgh c2 s) s1
noncomputable def zg0 (s14 : Bs) : Option (Bs) :=
  some s14
noncomputable def zd3 (s3 : Bs) (v10 : Bool) : Option (Bs ⊕ (Bs)) :=
  if v10 then ((sub? s3 1 (s3.length : Int)).bind fun (l12 : Bs) => some (.inl l12)) else (Option.map .inr (zg0 s3))
noncomputable def zgz (c2 : Int) (s3 : Bs) : Option (Bs ⊕ (Bs)) :=
  if decide (0 < (s3.length : Int)) then ((s3[0]?).bind fun (x7 : UInt8) => zd3 s3 (decide ((x7.toNat : Int) = c2))) else (zd3 s3 false)
noncomputable def zeo (s1 : Bs) (c2 : Int) : Option (Bs) :=
  iter (fun (s : Bs) => zgz c2 s) s1
noncomputable def zke (s1 : Bs) (cutset2 : Bs) (v9 : Bool) : Option (Bs) :=
  if v9 then ((cutset2[0]?).bind fun (x11 : UInt8) => (zdg s1 (x11.toNat : Int)).bind fun (r13 : (Bs)) => (zeo r13 (x11.toNat : Int)).bind fun (r15 : (Bs)) => some r15) else none
noncomputable def zj8 (s1 : Bs) (cutset2 : Bs) : Option (Bs) :=
  if ((decide (s1 = [])) || (decide (cutset2 = []))) then some s1 else (if decide ((cutset2.length : Int) = 1) then ((cutset2[0]?).bind fun (x6 : UInt8) => zke s1 cutset2 (decide ((x6.toNat : Int) < 128))) else (zke s1 cutset2 false))
noncomputable def zg6 (v12 : Bool) : Option (Bool) :=
  some v12
noncomputable def zgn (s1 : Bs) : Option (Bool) :=
  if decide ((s1.length : Int) ≤ 2000) then ((zfr s1 32 126).bind fun (r4 : (Bool)) => if r4 then ((zj8 s1 [32]).bind fun (r8 : (Bs)) => zg6 (decide (r8 = s1))) else (zg6 false)) else (zg6 false)
noncomputable def zi9 (k3 : Nat) (x6 : zaf) : Option (Unit ⊕ (Int)) :=
  (zh9 x6.Name).bind fun (r9 : (Bool)) => if !r9 then (some (.inr 5)) else ((zgn x6.Value).bind fun (r12 : (Bool)) => if !r12 then (some (.inr 3)) else (some (.inl ())))
noncomputable def zja : Option (Int) :=
  some 0
noncomputable def zf5 (l1 : (List zaf)) : Option (Int) :=
  if decide (50 < (l1.length : Int)) then some 2 else (if l1.length ≤ 1000000000 then forL (fun (k : Nat) (x : zaf) (s : Unit) => zi9 k x) (fun (s : Unit) => zja) 0 l1 () else none)
noncomputable def zcf (r1 : zar) (v25 : Bool) : Option (Int) :=
  if v25 then some 3 else ((zf5 r1.Headers).bind fun (r27 : (Int)) => if decide (r27 ≠ 0) then some r27 else (if decide (20000 < (r1.Body.length : Int)) then some 2 else some 0))
noncomputable def zc4 (r1 : zar) : Option (Int) :=
  (zl2 r1.At).bind fun (r2 : (Bool)) => if !r2 then some 1 else ((zh9 r1.Method).bind fun (r5 : (Bool)) => if !r5 then some 5 else ((zi1 r1.Host).bind fun (r8 : (Bool)) => if !r8 then (zcf r1 true) else ((zgd r1.Path).bind fun (r12 : (Int)) => if decide (r12 ≠ 0) then (zcf r1 true) else ((zcd r1.Query).bind fun (r16 : (Int)) => if decide (r16 ≠ 0) then (zcf r1 true) else ((zgn r1.From).bind fun (r20 : (Bool)) => zcf r1 (!r20))))))
noncomputable def zhj (s1 : Bs) : Option (Bs × Int) :=
  (zi1 s1).bind fun (r2 : (Bool)) => if !r2 then (some ([], 3)) else ((zda s1).bind fun (r5 : (Bs)) => (zga r5 [58]).bind fun (r7 : (Bs × Bs × Bool)) => if (((decide (r7.2.1 = [])) || (decide (r7.2.1 = [56, 48]))) || (decide (r7.2.1 = [52, 52, 51]))) then (some (r7.1, 0)) else (if r7.1.length + [58].length ≤ 1000000000 then (if (r7.1 ++ [58]).length + r7.2.1.length ≤ 1000000000 then (some (((r7.1 ++ [58]) ++ r7.2.1), 0)) else none) else none))
noncomputable def zbl (l1 : (List Int)) (c2 : Int) : Option (Int × (List Int)) :=
  if l1.length + 1 ≤ 1000000000 then (some (0, (l1 ++ [c2]))) else none
noncomputable def zki (c1 : Int) : Option (Bool) :=
  (zjf c1).bind fun (r2 : (Bool)) => some ((r2 || ((decide (97 ≤ c1)) && (decide (c1 ≤ 102)))) || ((decide (65 ≤ c1)) && (decide (c1 ≤ 70))))
noncomputable def zh0 (v17 : Bool) : Option (Bool) :=
  some v17
noncomputable def zhm (s1 : Bs) (v2 : Int) : Option (Bool) :=
  if decide ((wr (v2 + 2)) < (s1.length : Int)) then ((at? s1 (wr (v2 + 1))).bind fun (x5 : UInt8) => (zki (x5.toNat : Int)).bind fun (r7 : (Bool)) => if r7 then ((at? s1 (wr (v2 + 2))).bind fun (x11 : UInt8) => (zki (x11.toNat : Int)).bind fun (r13 : (Bool)) => zh0 r13) else (zh0 false)) else (zh0 false)
noncomputable def zh4 (s1 : Bs) (base2 : Int) (bitSize3 : Int) : Option (Int × Int) :=
  (zdi s1 base2 bitSize3).bind fun (r4 : (Int × Int)) => if decide (r4.2 ≠ 0) then ((zm2 [80, 97, 114, 115, 101, 85, 105, 110, 116] s1 base2 bitSize3 r4.2).bind fun (r7 : (Int)) => some (r4.1, r7)) else (some (r4.1, 0))
noncomputable def zk7 (s1 : Bs) (v2 : Int) : Option (Int) :=
  (sub? s1 (wr (v2 + 1)) (wr (v2 + 3))).bind fun (l3 : Bs) => (zh4 l3 16 8).bind fun (r5 : (Int × Int)) => if decide (r5.2 ≠ 0) then some 0 else (some (IntKind.wrap .u8 r5.1))
noncomputable def zjb (v14 : Bool) : Option (Bool) :=
  some v14
noncomputable def zfp (c1 : Int) : Option (Bool) :=
  (zj1 c1).bind fun (r2 : (Bool)) => if r2 then (zjb true) else ((zjf c1).bind fun (r6 : (Bool)) => if r6 then (zjb true) else ((zgb [45, 46, 95, 126] c1).bind fun (r10 : (Int)) => zjb (decide (0 ≤ r10))))
noncomputable def zef (c1 : Int) : Option (Bs) :=
  (at? [48, 49, 50, 51, 52, 53, 54, 55, 56, 57, 65, 66, 67, 68, 69, 70] (shr_ .u8 c1 4)).bind fun (x2 : UInt8) => (at? [48, 49, 50, 51, 52, 53, 54, 55, 56, 57, 65, 66, 67, 68, 69, 70] (and_ .u8 c1 15)).bind fun (x4 : UInt8) => some (strN [37, (x2.toNat : Int), (x4.toNat : Int)])
noncomputable def zdb (l1 : (List Int)) (s2 : Bs) : Option (Int × Int × (List Int)) :=
  if l1.length + s2.length ≤ 1000000000 then (some ((s2.length : Int), 0, (l1 ++ zdv s2))) else none
noncomputable def zen (i26 : Int) (l27 : (List Int)) : Option ((Int × (List Int)) ⊕ (Bs × Bool)) :=
  some (.inl (wr (i26 + 1), l27))
noncomputable def zf3 (i2 : Int) (l25 : (List Int)) : Option ((Int × (List Int)) ⊕ (Bs × Bool)) :=
  zen (wr (i2 + 2)) l25
noncomputable def zhw (l28 : (List Int)) : Option (Bs × Bool) :=
  if byR l28 = true then (some ((strN l28), true)) else none
noncomputable def zbk (s1 : Bs) (i2 : Int) (l3 : (List Int)) : Option ((Int × (List Int)) ⊕ (Bs × Bool)) :=
  if decide (i2 < (s1.length : Int)) then ((at? s1 i2).bind fun (x6 : UInt8) => if decide ((x6.toNat : Int) ≠ 37) then ((zbl l3 (x6.toNat : Int)).bind fun (r9 : (Int × (List Int))) => zen i2 r9.2) else ((zhm s1 i2).bind fun (r11 : (Bool)) => if !r11 then (some (.inr ([], false))) else ((zk7 s1 i2).bind fun (r14 : (Int)) => (zfp r14).bind fun (r16 : (Bool)) => if r16 then ((zbl l3 r14).bind fun (r19 : (Int × (List Int))) => zf3 i2 r19.2) else ((zef r14).bind fun (r21 : (Bs)) => (zdb l3 r21).bind fun (r23 : (Int × Int × (List Int))) => zf3 i2 r23.2.2)))) else (Option.map .inr (zhw l3))
noncomputable def zfh (s1 : Bs) : Option (Bs × Bool) :=
  iter (fun (s : Int × (List Int)) => zbk s1 s.1 s.2) (0, ([] : List Int))
noncomputable def zff (out29 : (List Bs)) : Option ((List Bs) ⊕ (Bs × Int)) :=
  some (.inl out29)
noncomputable def zgk (r10 : ((List Bs))) (k13 : Nat) (out26 : (List Bs)) : Option ((List Bs) ⊕ (Bs × Int)) :=
  if decide ((k13 : Int) = (wr ((r10.length : Int) - 1))) then (if out26.length + 1 ≤ 1000000000 then (zff (out26 ++ ([[]]))) else none) else (zff out26)
noncomputable def zfe (r10 : ((List Bs))) (k13 : Nat) (x16 : Bs) (l12 : (List Bs)) : Option ((List Bs) ⊕ (Bs × Int)) :=
  if decide (x16 = [46]) then (zgk r10 k13 l12) else (if decide (x16 = [46, 46]) then (if (0 : Int) ≤ (max (wr ((l12.length : Int) - 1)) 0) ∧ (max (wr ((l12.length : Int) - 1)) 0) ≤ (l12.length : Int) then (zgk r10 k13 (l12.take (max (wr ((l12.length : Int) - 1)) 0).toNat)) else none) else (if l12.length + 1 ≤ 1000000000 then (zff (l12 ++ [x16])) else none))
noncomputable def zgl (l12 : (List Bs)) : Option (Bs × Int) :=
  (zc5 l12 [47]).bind fun (r17 : (Bs)) => if [47].length + r17.length ≤ 1000000000 then (some (([47] ++ r17), 0)) else none
noncomputable def zek (s1 : Bs) : Option (Bs × Int) :=
  (zgd s1).bind fun (r2 : (Int)) => if decide (r2 ≠ 0) then (some ([], r2)) else ((zfh s1).bind fun (r5 : (Bs × Bool)) => if !r5.2 then (some ([], 9)) else ((sub? r5.1 1 (r5.1.length : Int)).bind fun (l8 : Bs) => (zb8 l8 [47]).bind fun (r10 : ((List Bs))) => if r10.length ≤ 1000000000 then forL (fun (k : Nat) (x : Bs) (s : (List Bs)) => zfe r10 k x s) (fun (s : (List Bs)) => zgl s) 0 r10 [] else none))
noncomputable def zet (i22 : Int) (l23 : (List Int)) : Option ((Int × (List Int)) ⊕ (Bs × Bool)) :=
  some (.inl (wr (i22 + 1), l23))
noncomputable def zjv (l24 : (List Int)) : Option (Bs × Bool) :=
  if byR l24 = true then (some ((strN l24), true)) else none
noncomputable def zbo (s1 : Bs) (plus2 : Bool) (i3 : Int) (l4 : (List Int)) : Option ((Int × (List Int)) ⊕ (Bs × Bool)) :=
  if decide (i3 < (s1.length : Int)) then ((at? s1 i3).bind fun (x7 : UInt8) => if ((decide ((x7.toNat : Int) = 43)) && plus2) then ((zbl l4 32).bind fun (r10 : (Int × (List Int))) => zet i3 r10.2) else (if decide ((x7.toNat : Int) ≠ 37) then ((zbl l4 (x7.toNat : Int)).bind fun (r13 : (Int × (List Int))) => zet i3 r13.2) else ((zhm s1 i3).bind fun (r15 : (Bool)) => if !r15 then (some (.inr ([], false))) else ((zk7 s1 i3).bind fun (r18 : (Int)) => (zbl l4 r18).bind fun (r20 : (Int × (List Int))) => zet (wr (i3 + 2)) r20.2)))) else (Option.map .inr (zjv l4))
noncomputable def zh8 (s1 : Bs) (plus2 : Bool) : Option (Bs × Bool) :=
  iter (fun (s : Int × (List Int)) => zbo s1 plus2 s.1 s.2) (0, ([] : List Int))
noncomputable def zgj (out24 : (List zag)) : Option ((List zag) ⊕ ((List zag) × Int)) :=
  some (.inl out24)
noncomputable def zfd (k8 : Nat) (x11 : Bs) (l7 : (List zag)) : Option ((List zag) ⊕ ((List zag) × Int)) :=
  if decide (x11 = []) then (zgj l7) else ((zga x11 [61]).bind fun (r16 : (Bs × Bs × Bool)) => (zh8 r16.1 true).bind fun (r18 : (Bs × Bool)) => (zh8 r16.2.1 true).bind fun (r20 : (Bs × Bool)) => if ((!r18.2) || (!r20.2)) then (some (.inr ([], 9))) else (if l7.length + 1 ≤ 1000000000 then (zgj (l7 ++ [(zag.mk r18.1 r20.1)])) else none))
noncomputable def zdz (l7 : (List zag)) : Option ((List zag) × Int) :=
  if decide (100 < (l7.length : Int)) then (some ([], 2)) else (some (l7, 0))
noncomputable def zej (s1 : Bs) : Option ((List zag) × Int) :=
  (zcd s1).bind fun (r2 : (Int)) => if decide (r2 ≠ 0) then (some ([], r2)) else ((zb8 s1 [38]).bind fun (r5 : ((List Bs))) => if r5.length ≤ 1000000000 then forL (fun (k : Nat) (x : Bs) (s : (List zag)) => zfd k x s) (fun (s : (List zag)) => zdz s) 0 r5 [] else none)
noncomputable def ze4 (p1 : zag → Option (Bool)) (k2 : Nat) (x5 : zag) : Option (Unit ⊕ (Int)) :=
  (p1 x5).bind fun (r8 : Bool) => if r8 then (some (.inr (k2 : Int))) else (some (.inl ()))
noncomputable def ze5 : Option (Int) :=
  some (-1)
noncomputable def zfg (s1 : (List zag)) (p1 : zag → Option (Bool)) : Option (Int) :=
  if s1.length ≤ 1000000000 then forL (fun (k : Nat) (x : zag) (s : Unit) => ze4 p1 k x) (fun (s : Unit) => ze5) 0 s1 () else none
noncomputable def zb7 (j6 : Int) (i17 : Int) (s18 : (List zag)) : Option ((Int × Int × (List zag)) ⊕ ((List zag))) :=
  some (.inl (i17, wr (j6 + 1), s18))
noncomputable def zc3 (i19 : Int) (s20 : (List zag)) : Option ((List zag)) :=
  if (0 : Int) ≤ i19 ∧ i19 < (s20.length : Int) then (if (0 : Int) ≤ i19 ∧ i19 ≤ ((s20.take i19.toNat ++ List.replicate (s20.length - i19.toNat) (zag.mk [] [])).length : Int) then (some ((s20.take i19.toNat ++ List.replicate (s20.length - i19.toNat) (zag.mk [] [])).take i19.toNat)) else none) else none
noncomputable def zem (p1 : zag → Option (Bool)) (i5 : Int) (j6 : Int) (l7 : (List zag)) : Option ((Int × Int × (List zag)) ⊕ ((List zag))) :=
  if decide (j6 < (l7.length : Int)) then ((at? l7 j6).bind fun (x10 : zag) => (p1 x10).bind fun (r12 : Bool) => if !r12 then ((at? l7 i5).bind fun (x15 : zag) => zb7 j6 (wr (i5 + 1)) (l7.set i5.toNat x10)) else (zb7 j6 i5 l7)) else (Option.map .inr (zc3 i5 l7))
noncomputable def zbw (s1 : (List zag)) (p1 : zag → Option (Bool)) : Option ((List zag)) :=
  (zfg s1 p1).bind fun (r2 : (Int)) => if decide (r2 = (-1)) then some s1 else (iter (fun (s : Int × Int × (List zag)) => zem p1 s.1 s.2.1 s.2.2) (r2, wr (r2 + 1), s1))
noncomputable def zj2 (p1 : zag) : Option (Bool) :=
  some ((p1.Name == []) && ((p1.Value == []) && true))
noncomputable def zjz (x6 : Int) (n7 : Int) : Option (Int) :=
  (at? [0, 1, 2, 2, 3, 3, 3, 3, 4, 4, 4, 4, 4, 4, 4, 4, 5, 5, 5, 5, 5, 5, 5, 5, 5, 5, 5, 5, 5, 5, 5, 5, 6, 6, 6, 6, 6, 6, 6, 6, 6, 6, 6, 6, 6, 6, 6, 6, 6, 6, 6, 6, 6, 6, 6, 6, 6, 6, 6, 6, 6, 6, 6, 6, 7, 7, 7, 7, 7, 7, 7, 7, 7, 7, 7, 7, 7, 7, 7, 7, 7, 7, 7, 7, 7, 7, 7, 7, 7, 7, 7, 7, 7, 7, 7, 7, 7, 7, 7, 7, 7, 7, 7, 7, 7, 7, 7, 7, 7, 7, 7, 7, 7, 7, 7, 7, 7, 7, 7, 7, 7, 7, 7, 7, 7, 7, 7, 7, 8, 8, 8, 8, 8, 8, 8, 8, 8, 8, 8, 8, 8, 8, 8, 8, 8, 8, 8, 8, 8, 8, 8, 8, 8, 8, 8, 8, 8, 8, 8, 8, 8, 8, 8, 8, 8, 8, 8, 8, 8, 8, 8, 8, 8, 8, 8, 8, 8, 8, 8, 8, 8, 8, 8, 8, 8, 8, 8, 8, 8, 8, 8, 8, 8, 8, 8, 8, 8, 8, 8, 8, 8, 8, 8, 8, 8, 8, 8, 8, 8, 8, 8, 8, 8, 8, 8, 8, 8, 8, 8, 8, 8, 8, 8, 8, 8, 8, 8, 8, 8, 8, 8, 8, 8, 8, 8, 8, 8, 8, 8, 8, 8, 8, 8, 8, 8, 8, 8, 8, 8, 8, 8, 8, 8, 8, 8, 8] (IntKind.wrap .u8 x6)).bind fun (x8 : UInt8) => some (wr (n7 + (IntKind.wrap .i64 (x8.toNat : Int))))
noncomputable def zj0 (x3 : Int) (n4 : Int) : Option (Int) :=
  if decide (256 ≤ x3) then (zjz (shr_ .u32 x3 8) (wr (n4 + 8))) else (zjz x3 n4)
noncomputable def zm5 (x1 : Int) : Option (Int) :=
  if decide (65536 ≤ x1) then (zj0 (shr_ .u32 x1 16) 16) else (zj0 x1 0)
noncomputable def zjw (x9 : Int) (n10 : Int) : Option (Int) :=
  (at? [0, 1, 2, 2, 3, 3, 3, 3, 4, 4, 4, 4, 4, 4, 4, 4, 5, 5, 5, 5, 5, 5, 5, 5, 5, 5, 5, 5, 5, 5, 5, 5, 6, 6, 6, 6, 6, 6, 6, 6, 6, 6, 6, 6, 6, 6, 6, 6, 6, 6, 6, 6, 6, 6, 6, 6, 6, 6, 6, 6, 6, 6, 6, 6, 7, 7, 7, 7, 7, 7, 7, 7, 7, 7, 7, 7, 7, 7, 7, 7, 7, 7, 7, 7, 7, 7, 7, 7, 7, 7, 7, 7, 7, 7, 7, 7, 7, 7, 7, 7, 7, 7, 7, 7, 7, 7, 7, 7, 7, 7, 7, 7, 7, 7, 7, 7, 7, 7, 7, 7, 7, 7, 7, 7, 7, 7, 7, 7, 8, 8, 8, 8, 8, 8, 8, 8, 8, 8, 8, 8, 8, 8, 8, 8, 8, 8, 8, 8, 8, 8, 8, 8, 8, 8, 8, 8, 8, 8, 8, 8, 8, 8, 8, 8, 8, 8, 8, 8, 8, 8, 8, 8, 8, 8, 8, 8, 8, 8, 8, 8, 8, 8, 8, 8, 8, 8, 8, 8, 8, 8, 8, 8, 8, 8, 8, 8, 8, 8, 8, 8, 8, 8, 8, 8, 8, 8, 8, 8, 8, 8, 8, 8, 8, 8, 8, 8, 8, 8, 8, 8, 8, 8, 8, 8, 8, 8, 8, 8, 8, 8, 8, 8, 8, 8, 8, 8, 8, 8, 8, 8, 8, 8, 8, 8, 8, 8, 8, 8, 8, 8, 8, 8, 8, 8, 8, 8] (IntKind.wrap .u8 x9)).bind fun (x11 : UInt8) => some (wr (n10 + (IntKind.wrap .i64 (x11.toNat : Int))))
noncomputable def zjx (x6 : Int) (n7 : Int) : Option (Int) :=
  if decide (256 ≤ x6) then (zjw (shr_ .u64 x6 8) (wr (n7 + 8))) else (zjw x6 n7)
noncomputable def zjy (x3 : Int) (n4 : Int) : Option (Int) :=
  if decide (65536 ≤ x3) then (zjx (shr_ .u64 x3 16) (wr (n4 + 16))) else (zjx x3 n4)
noncomputable def zm4 (x1 : Int) : Option (Int) :=
  if decide (4294967296 ≤ x1) then (zjy (shr_ .u64 x1 32) 32) else (zjy x1 0)
noncomputable def zll (x1 : Int) : Option (Int) :=
  if false then ((zm5 (IntKind.wrap .u32 x1)).bind fun (r3 : (Int)) => some r3) else ((zm4 x1).bind fun (r5 : (Int)) => some r5)
noncomputable def zc6 (i4 : Int) (data28 : (List zag)) : Option ((Int × (List zag)) ⊕ ((List zag))) :=
  some (.inl (wr (i4 + 1), data28))
noncomputable def zcb (i4 : Int) (j8 : Int) (l9 : (List zag)) (v20 : Bool) : Option ((Int × (List zag)) ⊕ ((Int × (List zag)) ⊕ ((List zag)))) :=
  if v20 then ((at? l9 (wr (j8 - 1))).bind fun (x22 : zag) => (at? l9 j8).bind fun (x24 : zag) => (at? (l9.set j8.toNat x22) (wr (j8 - 1))).bind fun (x26 : zag) => some (.inl (wr (j8 - 1), ((l9.set j8.toNat x22).set ((wr (j8 - 1)).toNat) x24)))) else (Option.map .inr (zc6 i4 l9))
noncomputable def ze2 (a2 : Int) (p3 : zag → zag → Option (Int)) (i4 : Int) (j8 : Int) (l9 : (List zag)) : Option ((Int × (List zag)) ⊕ ((Int × (List zag)) ⊕ ((List zag)))) :=
  if decide (a2 < j8) then ((at? l9 j8).bind fun (x13 : zag) => (at? l9 (wr (j8 - 1))).bind fun (x15 : zag) => (p3 x13 x15).bind fun (r17 : Int) => zcb i4 j8 l9 (decide (r17 < 0))) else (zcb i4 j8 l9 false)
noncomputable def ze3 (a2 : Int) (b3 : Int) (p3 : zag → zag → Option (Int)) (i4 : Int) (l5 : (List zag)) : Option ((Int × (List zag)) ⊕ ((List zag))) :=
  if decide (i4 < b3) then (iter (fun (s : Int × (List zag)) => ze2 a2 p3 i4 s.1 s.2) (i4, l5)) else (some (.inr l5))
noncomputable def zch (data1 : (List zag)) (a2 : Int) (b3 : Int) (p3 : zag → zag → Option (Int)) : Option ((List zag)) :=
  iter (fun (s : Int × (List zag)) => ze3 a2 b3 p3 s.1 s.2) (wr (a2 + 1), data1)
noncomputable def zgx (v1 : (List zag)) (p4 : zag → zag → Option (Int)) (v5 : Int) (v6 : Int) (v7 : Int) (v8 : Bool) (v9 : Bool) : Option ((Int × Int × Int × Bool × Bool) ⊕ ((List zag))) :=
  if decide ((wr (v6 - v5)) ≤ 12) then ((zch v1 v5 v6 p4).bind fun (r12 : ((List zag))) => if r12.length = v1.length then (some (.inr r12)) else none) else (if decide (v7 = 0) then none else none)
noncomputable def zeu (v1 : (List zag)) (v2 : Int) (v3 : Int) (v4 : Int) (p4 : zag → zag → Option (Int)) : Option ((List zag)) :=
  iter (fun (s : Int × Int × Int × Bool × Bool) => zgx v1 p4 s.1 s.2.1 s.2.2.1 s.2.2.2.1 s.2.2.2.2) (v2, v3, v4, true, true)
noncomputable def zcn (x1 : (List zag)) (p1 : zag → zag → Option (Int)) : Option ((List zag)) :=
  (zll (IntKind.wrap .u64 (x1.length : Int))).bind fun (r2 : (Int)) => (zeu x1 0 (x1.length : Int) r2 p1).bind fun (r4 : ((List zag))) => if r4.length = x1.length then some r4 else none
noncomputable def zbz (a1 : zag) (b2 : zag) : Option (Int) :=
  if decide (a1.Name ≠ b2.Name) then ((zje a1.Name b2.Name).bind fun (r4 : (Int)) => some r4) else ((zje a1.Value b2.Value).bind fun (r6 : (Int)) => some r6)
noncomputable def zfy (l22 : (List Int)) : Option ((List Int) ⊕ (Bs)) :=
  some (.inl l22)
noncomputable def zfx (k3 : Nat) (x6 : UInt8) (l2 : (List Int)) : Option ((List Int) ⊕ (Bs)) :=
  if decide ((x6.toNat : Int) = 32) then ((zbl l2 43).bind fun (r11 : (Int × (List Int))) => zfy r11.2) else ((zfp (x6.toNat : Int)).bind fun (r13 : (Bool)) => if r13 then ((zbl l2 (x6.toNat : Int)).bind fun (r16 : (Int × (List Int))) => zfy r16.2) else ((zef (x6.toNat : Int)).bind fun (r18 : (Bs)) => (zdb l2 r18).bind fun (r20 : (Int × Int × (List Int))) => zfy r20.2.2))
noncomputable def zhi (l2 : (List Int)) : Option (Bs) :=
  if byR l2 = true then (some (strN l2)) else none
noncomputable def zh5 (s1 : Bs) : Option (Bs) :=
  if s1.length ≤ 1000000000 then forL (fun (k : Nat) (x : UInt8) (s : (List Int)) => zfx k x s) (fun (s : (List Int)) => zhi s) 0 s1 ([] : List Int) else none
noncomputable def zi6 (k4 : Nat) (x7 : zag) (l3 : (List Bs)) : Option ((List Bs) ⊕ (Bs × Int)) :=
  if ((x7.Name == []) && ((x7.Value == []) && true)) then (some (.inr ([], 3))) else ((zh5 x7.Name).bind fun (r14 : (Bs)) => if r14.length + [61].length ≤ 1000000000 then ((zh5 x7.Value).bind fun (r17 : (Bs)) => if (r14 ++ [61]).length + r17.length ≤ 1000000000 then (if l3.length + 1 ≤ 1000000000 then (some (.inl (l3 ++ ([((r14 ++ [61]) ++ r17)])))) else none) else none) else none)
noncomputable def zj9 (l3 : (List Bs)) : Option (Bs × Int) :=
  (zc5 l3 [38]).bind fun (r8 : (Bs)) => if decide (1000 < (r8.length : Int)) then (some ([], 2)) else (some (r8, 0))
noncomputable def zfi (l1 : (List zag)) : Option (Bs × Int) :=
  if decide (100 < (l1.length : Int)) then (some ([], 2)) else (if l1.length ≤ 1000000000 then forL (fun (k : Nat) (x : zag) (s : (List Bs)) => zi6 k x s) (fun (s : (List Bs)) => zj9 s) 0 l1 [] else none)
noncomputable def zh3 (k26 : Nat) (l25 : (List zaf)) : Option ((List zaf) ⊕ (zar × Int)) :=
  (l25[k26]?).bind fun (x30 : zaf) => (zda x30.Name).bind fun (r32 : (Bs)) => some (.inl (l25.set k26 (zaf.mk r32 x30.Value)))
noncomputable def zlu (v1 : zar) (r5 : (Bs × Int)) (r7 : (Bs × Int)) (r18 : (Bs × Int)) (r21 : (Bs)) (l25 : (List zaf)) : Option (zar × Int) :=
  some ((zar.mk v1.At r21 r5.1 r7.1 r18.1 v1.From l25 v1.Body), 0)
noncomputable def zk4 (v1 : zar) : Option (zar × Int) :=
  (zc4 v1).bind fun (r2 : (Int)) => if decide (r2 ≠ 0) then (some ((zar.mk 0 [] [] [] [] [] [] []), r2)) else ((zhj v1.Host).bind fun (r5 : (Bs × Int)) => (zek v1.Path).bind fun (r7 : (Bs × Int)) => if decide (r7.2 ≠ 0) then (some ((zar.mk 0 [] [] [] [] [] [] []), r7.2)) else ((zej v1.Query).bind fun (r10 : ((List zag) × Int)) => if decide (r10.2 ≠ 0) then (some ((zar.mk 0 [] [] [] [] [] [] []), r10.2)) else ((zbw r10.1 (fun (a0 : zag) => zj2 a0)).bind fun (r13 : ((List zag))) => (zcn r13 (fun (a0 : zag) (a1 : zag) => zbz a0 a1)).bind fun (r15 : ((List zag))) => if r15.length = r13.length then ((zfi r15).bind fun (r18 : (Bs × Int)) => if decide (r18.2 ≠ 0) then (some ((zar.mk 0 [] [] [] [] [] [] []), r18.2)) else ((zjd v1.Method).bind fun (r21 : (Bs)) => (zee v1.Headers).bind fun (r23 : ((List zaf))) => if r23.length ≤ 1000000000 then rng (fun (k : Nat) (s : (List zaf)) => zh3 k s) (fun (s : (List zaf)) => zlu v1 r5 r7 r18 r21 s) r23.length 0 r23 else none)) else none)))
noncomputable def zg8 (n1 : Int) (low2 : Int) (high3 : Int) : Option (Bool) :=
  some ((decide (low2 ≤ n1)) && (decide (n1 ≤ high3)))
noncomputable def zlw (v1 : Int) : Option (Bool) :=
  (zg8 v1 0 345686399999).bind fun (r2 : (Bool)) => some r2
noncomputable def zma (some2 : Bs) (k3 : Nat) (x6 : UInt8) : Option (Unit ⊕ (Bool)) :=
  (zgb some2 (x6.toNat : Int)).bind fun (r9 : (Int)) => if decide (r9 < 0) then (some (.inr false)) else (some (.inl ()))
noncomputable def znu : Option (Bool) :=
  some true
noncomputable def zf7 (s1 : Bs) (some2 : Bs) : Option (Bool) :=
  if s1.length ≤ 1000000000 then forL (fun (k : Nat) (x : UInt8) (s : Unit) => zma some2 k x) (fun (s : Unit) => znu) 0 s1 () else none
noncomputable def zjh (v9 : Bool) : Option (Bool) :=
  some v9
noncomputable def zi3 (s1 : Bs) : Option (Bool) :=
  (zg8 (s1.length : Int) 1 100).bind fun (r2 : (Bool)) => if r2 then ((zf7 s1 [97, 98, 99, 100, 101, 102, 103, 104, 105, 106, 107, 108, 109, 110, 111, 112, 113, 114, 115, 116, 117, 118, 119, 120, 121, 122, 65, 66, 67, 68, 69, 70, 71, 72, 73, 74, 75, 76, 77, 78, 79, 80, 81, 82, 83, 84, 85, 86, 87, 88, 89, 90, 48, 49, 50, 51, 52, 53, 54, 55, 56, 57, 33, 35, 36, 37, 38, 39, 42, 43, 45, 46, 94, 95, 96, 124, 126]).bind fun (r6 : (Bool)) => zjh r6) else (zjh false)
noncomputable def zj5 (r15 : (Int × Int)) (v22 : Bool) : Option (Int × Bool) :=
  some (r15.1, v22)
noncomputable def ziw (s1 : Bs) (v13 : Bool) : Option (Int × Bool) :=
  if v13 then (some (0, false)) else ((znd s1).bind fun (r15 : (Int × Int)) => if decide (r15.2 = 0) then ((zrg r15.1).bind fun (r19 : (Bs)) => zj5 r15 (decide (r19 = s1))) else (zj5 r15 false))
noncomputable def zlv (s1 : Bs) (most2 : Int) : Option (Int × Bool) :=
  (zka s1 [45]).bind fun (r3 : (Bs)) => if decide (r3 = []) then (ziw s1 true) else (if decide (most2 < (r3.length : Int)) then (ziw s1 true) else ((zf7 r3 [48, 49, 50, 51, 52, 53, 54, 55, 56, 57]).bind fun (r9 : (Bool)) => ziw s1 (!r9)))
noncomputable def zj6 (v30 : Bs) : Option (Bs × Int) :=
  some (v30, 0)
noncomputable def ze0 (v45 : Bool) : Option (Unit ⊕ (Bs × Int)) :=
  if v45 then (some (.inr ([], 3))) else (some (.inl ()))
noncomputable def zix (k21 : Nat) (x24 : Bs) : Option (Unit ⊕ (Bs × Int)) :=
  (zg8 (x24.length : Int) 1 63).bind fun (r33 : (Bool)) => if !r33 then (ze0 true) else ((zf7 x24 [97, 98, 99, 100, 101, 102, 103, 104, 105, 106, 107, 108, 109, 110, 111, 112, 113, 114, 115, 116, 117, 118, 119, 120, 121, 122, 65, 66, 67, 68, 69, 70, 71, 72, 73, 74, 75, 76, 77, 78, 79, 80, 81, 82, 83, 84, 85, 86, 87, 88, 89, 90, 48, 49, 50, 51, 52, 53, 54, 55, 56, 57, 45]).bind fun (r37 : (Bool)) => if !r37 then (ze0 true) else ((zj8 x24 [45]).bind fun (r41 : (Bs)) => ze0 (decide (r41 ≠ x24))))
noncomputable def ziy (r2 : (Bs × Bs × Bool)) (r4 : (Int × Bool)) : Option (Bs × Int) :=
  (zda r2.1).bind fun (r25 : (Bs)) => if ((r2.2.2 && (decide (r4.1 ≠ 80))) && (decide (r4.1 ≠ 443))) then (if [58].length + r2.2.1.length ≤ 1000000000 then (if r25.length + ([58] ++ r2.2.1).length ≤ 1000000000 then (zj6 (r25 ++ ([58] ++ r2.2.1))) else none) else none) else (zj6 r25)
noncomputable def ze1 (r2 : (Bs × Bs × Bool)) (r4 : (Int × Bool)) (v17 : Bool) : Option (Bs × Int) :=
  if v17 then (some ([], 3)) else ((zb8 r2.1 [46]).bind fun (r19 : ((List Bs))) => if r19.length ≤ 1000000000 then forL (fun (k : Nat) (x : Bs) (s : Unit) => zix k x) (fun (s : Unit) => ziy r2 r4) 0 r19 () else none)
noncomputable def zgp (v1 : Bs) : Option (Bs × Int) :=
  (zga v1 [58]).bind fun (r2 : (Bs × Bs × Bool)) => (zlv r2.2.1 5).bind fun (r4 : (Int × Bool)) => if decide (255 < (v1.length : Int)) then (ze1 r2 r4 true) else (if r2.2.2 then (if !r4.2 then (ze1 r2 r4 true) else ((zg8 r4.1 1 65535).bind fun (r12 : (Bool)) => ze1 r2 r4 (!r12))) else (ze1 r2 r4 false))
noncomputable def zic (v12 : Bool) : Option (Unit ⊕ (Bool)) :=
  if v12 then (some (.inr false)) else (some (.inl ()))
noncomputable def zk0 (low2 : Int) (k3 : Nat) (x6 : UInt8) : Option (Unit ⊕ (Bool)) :=
  if decide ((x6.toNat : Int) < low2) then (zic true) else (zic (decide (126 < (x6.toNat : Int))))
noncomputable def zme : Option (Bool) :=
  some true
noncomputable def zev (s1 : Bs) (low2 : Int) : Option (Bool) :=
  if s1.length ≤ 1000000000 then forL (fun (k : Nat) (x : UInt8) (s : Unit) => zk0 low2 k x) (fun (s : Unit) => zme) 0 s1 () else none
noncomputable def zel (v19 : Bool) : Option (Bool) :=
  some v19
noncomputable def zib (s1 : Bs) : Option (Bool) :=
  (zg8 (s1.length : Int) 1 1000).bind fun (r2 : (Bool)) => if r2 then ((s1[0]?).bind fun (x6 : UInt8) => if decide ((x6.toNat : Int) = 47) then ((zev s1 33).bind fun (r10 : (Bool)) => if r10 then ((zgm s1 [63, 35]).bind fun (r14 : (Bool)) => zel (!r14)) else (zel false)) else (zel false)) else (zel false)
noncomputable def zci (v12 : Bool) : Option (Bool) :=
  some v12
noncomputable def zce (s1 : Bs) : Option (Bool) :=
  if decide ((s1.length : Int) ≤ 1000) then ((zev s1 33).bind fun (r4 : (Bool)) => if r4 then ((zf1 s1 [35]).bind fun (r8 : (Bool)) => zci (!r8)) else (zci false)) else (zci false)
noncomputable def zji (v12 : Bool) : Option (Bool) :=
  some v12
noncomputable def zjq (s1 : Bs) : Option (Bool) :=
  if decide ((s1.length : Int) ≤ 2000) then ((zev s1 32).bind fun (r4 : (Bool)) => if r4 then ((zj8 s1 [32]).bind fun (r8 : (Bs)) => zji (decide (r8 = s1))) else (zji false)) else (zji false)
noncomputable def ziz (k3 : Nat) (x6 : zaf) : Option (Unit ⊕ (Int)) :=
  (zi3 x6.Name).bind fun (r9 : (Bool)) => if !r9 then (some (.inr 5)) else ((zjq x6.Value).bind fun (r12 : (Bool)) => if !r12 then (some (.inr 3)) else (some (.inl ())))
noncomputable def zi0 : Option (Int) :=
  some 0
noncomputable def zft (l1 : (List zaf)) : Option (Int) :=
  if decide (50 < (l1.length : Int)) then some 2 else (if l1.length ≤ 1000000000 then forL (fun (k : Nat) (x : zaf) (s : Unit) => ziz k x) (fun (s : Unit) => zi0) 0 l1 () else none)
noncomputable def zdt (r1 : zar) (v23 : Bool) : Option (Int) :=
  if v23 then some 3 else ((zft r1.Headers).bind fun (r25 : (Int)) => if decide (r25 ≠ 0) then some r25 else (if decide (20000 < (r1.Body.length : Int)) then some 2 else some 0))
noncomputable def zfs (r1 : zar) : Option (Int) :=
  (zlw r1.At).bind fun (r2 : (Bool)) => if !r2 then some 1 else ((zi3 r1.Method).bind fun (r5 : (Bool)) => if !r5 then some 5 else ((zgp r1.Host).bind fun (r8 : (Bs × Int)) => if decide (r8.2 ≠ 0) then some r8.2 else ((zib r1.Path).bind fun (r11 : (Bool)) => if !r11 then (zdt r1 true) else ((zce r1.Query).bind fun (r15 : (Bool)) => if !r15 then (zdt r1 true) else ((zjq r1.From).bind fun (r19 : (Bool)) => zdt r1 (!r19))))))
noncomputable def zlz (out21 : (List za0)) : Option ((List za0) × Bool) :=
  some (out21, true)
noncomputable def zca (s2 : Bs) (l3 : (List za0)) : Option ((Bs × (List za0)) ⊕ ((List za0) × Bool)) :=
  if decide (s2 ≠ []) then ((s2[0]?).bind fun (x6 : UInt8) => if decide ((x6.toNat : Int) ≠ 37) then (if l3.length + 1 ≤ 1000000000 then ((sub? s2 1 (s2.length : Int)).bind fun (l10 : Bs) => some (.inl (l10, (l3 ++ [(za0.mk (x6.toNat : Int) true)])))) else none) else (if decide ((s2.length : Int) < 3) then (some (.inr ([], false))) else ((sub? s2 1 3).bind fun (l13 : Bs) => (zh4 l13 16 8).bind fun (r15 : (Int × Int)) => if decide (r15.2 ≠ 0) then (some (.inr ([], false))) else (if l3.length + 1 ≤ 1000000000 then ((sub? s2 3 (s2.length : Int)).bind fun (l19 : Bs) => some (.inl (l19, (l3 ++ [(za0.mk (IntKind.wrap .u8 r15.1) false)])))) else none)))) else (Option.map .inr (zlz l3))
noncomputable def zhn (s1 : Bs) : Option ((List za0) × Bool) :=
  iter (fun (s : Bs × (List za0)) => zca s.1 s.2) (s1, [])
noncomputable def zlc (n1 : Int) : Option (Bs) :=
  (sub? [48, 49, 50, 51, 52, 53, 54, 55, 56, 57, 65, 66, 67, 68, 69, 70] n1 (IntKind.wrap .u8 (n1 + 1))).bind fun (l2 : Bs) => some l2
noncomputable def zho (c1 : Int) : Option (Bs) :=
  (zlc (shr_ .u8 c1 4)).bind fun (r2 : (Bs)) => if [37].length + r2.length ≤ 1000000000 then ((zlc (and_ .u8 c1 15)).bind fun (r5 : (Bs)) => if ([37] ++ r2).length + r5.length ≤ 1000000000 then (some (([37] ++ r2) ++ r5)) else none) else none
noncomputable def zhh (c17 : Int) (x22 : Bs) (l28 : (List Bs)) : Option ((Int × (List Bs)) ⊕ (Bs × Int)) :=
  if decide (x22 = [46, 46]) then (some (.inl (wr (c17 + 1), l28))) else (some (.inl (c17, l28)))
noncomputable def zf2 (r15 : ((List Bs))) (k21 : Nat) (x22 : Bs) (c17 : Int) (l18 : (List Bs)) : Option ((Int × (List Bs)) ⊕ (Bs × Int)) :=
  if ((decide (x22 = [46])) || (decide (x22 = [46, 46]))) then (if decide ((k21 : Int) = (wr ((r15.length : Int) - 1))) then (if l18.length + 1 ≤ 1000000000 then (zhh c17 x22 (l18 ++ ([[]]))) else none) else (zhh c17 x22 l18)) else (if decide (0 < c17) then (some (.inl (wr (c17 - 1), l18))) else (if l18.length + 1 ≤ 1000000000 then (some (.inl (c17, (l18 ++ [x22])))) else none))
noncomputable def ziv (c17 : Int) (l18 : (List Bs)) : Option (Bs × Int) :=
  (zg7 l18).bind fun (r32 : (List Bs)) => (zc5 r32 [47]).bind fun (r34 : (Bs)) => if [47].length + r34.length ≤ 1000000000 then (some (([47] ++ r34), 0)) else none
noncomputable def zhg (v53 : Bs) : Option (Bs ⊕ (Bs × Int)) :=
  some (.inl v53)
noncomputable def zez (v8 : Bs) (x12 : za0) (v47 : Bool) : Option (Bs ⊕ (Bs × Int)) :=
  if v47 then (if v8.length + (strN [x12.c_]).length ≤ 1000000000 then (zhg (v8 ++ (strN [x12.c_]))) else none) else ((zho x12.c_).bind fun (r50 : (Bs)) => if v8.length + r50.length ≤ 1000000000 then (zhg (v8 ++ r50)) else none)
noncomputable def zhf (k9 : Nat) (x12 : za0) (v8 : Bs) : Option (Bs ⊕ (Bs × Int)) :=
  if x12.plain_ then (zez v8 x12 true) else ((zf7 (encL (IntKind.wrap .i32 x12.c_)) [97, 98, 99, 100, 101, 102, 103, 104, 105, 106, 107, 108, 109, 110, 111, 112, 113, 114, 115, 116, 117, 118, 119, 120, 121, 122, 65, 66, 67, 68, 69, 70, 71, 72, 73, 74, 75, 76, 77, 78, 79, 80, 81, 82, 83, 84, 85, 86, 87, 88, 89, 90, 48, 49, 50, 51, 52, 53, 54, 55, 56, 57, 45, 46, 95, 126]).bind fun (r41 : (Bool)) => if r41 then (zez v8 x12 (decide (x12.c_ < 128))) else (zez v8 x12 false))
noncomputable def zj4 (v8 : Bs) : Option (Bs × Int) :=
  (sub? v8 1 (v8.length : Int)).bind fun (l13 : Bs) => (zb8 l13 [47]).bind fun (r15 : ((List Bs))) => if r15.length ≤ 1000000000 then back (fun (k : Nat) (x : Bs) (s : Int × (List Bs)) => zf2 r15 k x s.1 s.2) (fun (s : Int × (List Bs)) => ziv s.1 s.2) r15 r15.length (0, ([] : List Bs)) else none
noncomputable def zkk (v1 : Bs) : Option (Bs × Int) :=
  (zib v1).bind fun (r2 : (Bool)) => if !r2 then (some ([], 3)) else ((zhn v1).bind fun (r5 : ((List za0) × Bool)) => if !r5.2 then (some ([], 9)) else (if r5.1.length ≤ 1000000000 then forL (fun (k : Nat) (x : za0) (s : Bs) => zhf k x s) (fun (s : Bs) => zj4 s) 0 r5.1 [] else none))
noncomputable def zge (k5 : Nat) (x8 : za0) (l4 : (List Int)) : Option ((List Int) ⊕ (Bs)) :=
  if l4.length + 1 ≤ 1000000000 then (some (.inl (l4 ++ [x8.c_]))) else none
noncomputable def zid (l4 : (List Int)) : Option (Bs) :=
  some (strN l4)
noncomputable def zg9 (s1 : Bs) : Option (Bs) :=
  (zhn s1).bind fun (r2 : ((List za0) × Bool)) => if r2.1.length ≤ 1000000000 then forL (fun (k : Nat) (x : za0) (s : (List Int)) => zge k x s) (fun (s : (List Int)) => zid s) 0 r2.1 [] else none
noncomputable def zie (out28 : (List zag)) : Option ((List zag) ⊕ ((List zag) × Int)) :=
  some (.inl out28)
noncomputable def zgf (k11 : Nat) (x14 : Bs) (l10 : (List zag)) : Option ((List zag) ⊕ ((List zag) × Int)) :=
  if decide (x14 = []) then (zie l10) else ((zkb x14 [43] [37, 50, 48]).bind fun (r19 : (Bs)) => (zga r19 [61]).bind fun (r21 : (Bs × Bs × Bool)) => (zg9 r21.1).bind fun (r23 : (Bs)) => (zg9 r21.2.1).bind fun (r25 : (Bs)) => if l10.length + 1 ≤ 1000000000 then (zie (l10 ++ [(zag.mk r23 r25)])) else none)
noncomputable def zif (l10 : (List zag)) : Option ((List zag) × Int) :=
  if decide (100 < (l10.length : Int)) then (some ([], 2)) else (some (l10, 0))
noncomputable def zhb (s1 : Bs) : Option ((List zag) × Int) :=
  (zce s1).bind fun (r2 : (Bool)) => if !r2 then (some ([], 3)) else ((zhn s1).bind fun (r5 : ((List za0) × Bool)) => if !r5.2 then (some ([], 9)) else ((zb8 s1 [38]).bind fun (r8 : ((List Bs))) => if r8.length ≤ 1000000000 then forL (fun (k : Nat) (x : Bs) (s : (List zag)) => zgf k x s) (fun (s : (List zag)) => zif s) 0 r8 [] else none))
noncomputable def zfj (p1 : zag) : Option (Bool) :=
  if p1.Name.length + p1.Value.length ≤ 1000000000 then (some (decide ((p1.Name ++ p1.Value) = []))) else none
noncomputable def zeq (blockSize16 : Int) : Option (Int ⊕ ((List zag))) :=
  some (.inl (wr (blockSize16 * 2)))
noncomputable def zer (n2 : Int) (blockSize16 : Int) (a23 : Int) : Option (Int ⊕ ((List zag))) :=
  if decide ((wr (a23 + blockSize16)) < n2) then none else (zeq blockSize16)
noncomputable def zg2 (n2 : Int) (blockSize16 : Int) (a19 : Int) (b20 : Int) : Option ((Int × Int) ⊕ (Int ⊕ ((List zag)))) :=
  if decide (b20 ≤ n2) then none else (Option.map .inr (zer n2 blockSize16 a19))
noncomputable def zg3 (n2 : Int) (r13 : ((List zag))) (blockSize16 : Int) : Option (Int ⊕ ((List zag))) :=
  if decide (blockSize16 < n2) then (iter (fun (s : Int × Int) => zg2 n2 blockSize16 s.1 s.2) (0, wr (2 * blockSize16))) else (some (.inr r13))
noncomputable def zes (n2 : Int) (p2 : zag → zag → Option (Int)) (a11 : Int) (data12 : (List zag)) : Option ((List zag)) :=
  (zch data12 a11 n2 p2).bind fun (r13 : ((List zag))) => if r13.length = data12.length then (iter (fun (s : Int) => zg3 n2 r13 s) 20) else none
noncomputable def zg4 (n2 : Int) (p2 : zag → zag → Option (Int)) (a3 : Int) (b4 : Int) (l5 : (List zag)) : Option ((Int × Int × (List zag)) ⊕ ((List zag))) :=
  if decide (b4 ≤ n2) then ((zch l5 a3 b4 p2).bind fun (r8 : ((List zag))) => if r8.length = l5.length then (some (.inl (b4, wr (b4 + 20), r8))) else none) else (Option.map .inr (zes n2 p2 a3 l5))
noncomputable def zfa (data1 : (List zag)) (n2 : Int) (p2 : zag → zag → Option (Int)) : Option ((List zag)) :=
  iter (fun (s : Int × Int × (List zag)) => zg4 n2 p2 s.1 s.2.1 s.2.2) (0, 20, data1)
noncomputable def zb2 (x1 : (List zag)) (p1 : zag → zag → Option (Int)) : Option ((List zag)) :=
  (zfa x1 (x1.length : Int) p1).bind fun (r2 : ((List zag))) => if r2.length = x1.length then some r2 else none
noncomputable def zgo (a1 : zag) (b2 : zag) : Option (Int) :=
  if decide (a1.Name ≠ b2.Name) then ((zje a1.Name b2.Name).bind fun (r4 : (Int)) => some r4) else ((zje a1.Value b2.Value).bind fun (r6 : (Int)) => some r6)
noncomputable def zfo (out18 : (List Int)) : Option ((List Int) ⊕ (Bs)) :=
  some (.inl out18)
noncomputable def zfn (k3 : Nat) (x6 : UInt8) (l2 : (List Int)) : Option ((List Int) ⊕ (Bs)) :=
  if decide ((x6.toNat : Int) = 32) then (if l2.length + 1 ≤ 1000000000 then (zfo (l2 ++ [43])) else none) else ((zgb [97, 98, 99, 100, 101, 102, 103, 104, 105, 106, 107, 108, 109, 110, 111, 112, 113, 114, 115, 116, 117, 118, 119, 120, 121, 122, 65, 66, 67, 68, 69, 70, 71, 72, 73, 74, 75, 76, 77, 78, 79, 80, 81, 82, 83, 84, 85, 86, 87, 88, 89, 90, 48, 49, 50, 51, 52, 53, 54, 55, 56, 57, 45, 46, 95, 126] (x6.toNat : Int)).bind fun (r11 : (Int)) => if decide (0 ≤ r11) then (if l2.length + 1 ≤ 1000000000 then (zfo (l2 ++ [(x6.toNat : Int)])) else none) else ((zho (x6.toNat : Int)).bind fun (r15 : (Bs)) => if l2.length + r15.length ≤ 1000000000 then (zfo (l2 ++ zdv r15)) else none))
noncomputable def zgu (l2 : (List Int)) : Option (Bs) :=
  some (strN l2)
noncomputable def zhk (s1 : Bs) : Option (Bs) :=
  if s1.length ≤ 1000000000 then forL (fun (k : Nat) (x : UInt8) (s : (List Int)) => zfn k x s) (fun (s : (List Int)) => zgu s) 0 s1 [] else none
noncomputable def zj3 (k4 : Nat) (x7 : zag) (l3 : (List Bs)) : Option ((List Bs) ⊕ (Bs × Int)) :=
  if ((decide (x7.Name = [])) && (decide (x7.Value = []))) then (some (.inr ([], 3))) else ((zhk x7.Name).bind fun (r14 : (Bs)) => if r14.length + [61].length ≤ 1000000000 then ((zhk x7.Value).bind fun (r17 : (Bs)) => if (r14 ++ [61]).length + r17.length ≤ 1000000000 then (if l3.length + 1 ≤ 1000000000 then (some (.inl (l3 ++ ([((r14 ++ [61]) ++ r17)])))) else none) else none) else none)
noncomputable def zlo (l3 : (List Bs)) : Option (Bs × Int) :=
  (zc5 l3 [38]).bind fun (r8 : (Bs)) => if decide (1000 < (r8.length : Int)) then (some ([], 2)) else (some (r8, 0))
noncomputable def zhl (l1 : (List zag)) : Option (Bs × Int) :=
  if decide (100 < (l1.length : Int)) then (some ([], 2)) else (if l1.length ≤ 1000000000 then forL (fun (k : Nat) (x : zag) (s : (List Bs)) => zj3 k x s) (fun (s : (List Bs)) => zlo s) 0 l1 [] else none)
noncomputable def zf0 (k24 : Nat) (x27 : zaf) (l23 : (List zaf)) : Option ((List zaf) ⊕ (zar × Int)) :=
  (zda x27.Name).bind fun (r30 : (Bs)) => if l23.length + 1 ≤ 1000000000 then (some (.inl (l23 ++ [(zaf.mk r30 x27.Value)]))) else none
noncomputable def zkc (v1 : zar) (r5 : (Bs × Int)) (r7 : (Bs × Int)) (r18 : (Bs × Int)) (r21 : (Bs)) (l23 : (List zaf)) : Option (zar × Int) :=
  some ((zar.mk v1.At r21 r5.1 r7.1 r18.1 v1.From l23 v1.Body), 0)
noncomputable def zjm (v1 : zar) : Option (zar × Int) :=
  (zfs v1).bind fun (r2 : (Int)) => if decide (r2 ≠ 0) then (some ((zar.mk 0 [] [] [] [] [] [] []), r2)) else ((zgp v1.Host).bind fun (r5 : (Bs × Int)) => (zkk v1.Path).bind fun (r7 : (Bs × Int)) => if decide (r7.2 ≠ 0) then (some ((zar.mk 0 [] [] [] [] [] [] []), r7.2)) else ((zhb v1.Query).bind fun (r10 : ((List zag) × Int)) => if decide (r10.2 ≠ 0) then (some ((zar.mk 0 [] [] [] [] [] [] []), r10.2)) else ((zbw r10.1 (fun (a0 : zag) => zfj a0)).bind fun (r13 : ((List zag))) => (zb2 r13 (fun (a0 : zag) (a1 : zag) => zgo a0 a1)).bind fun (r15 : ((List zag))) => if r15.length = r13.length then ((zhl r15).bind fun (r18 : (Bs × Int)) => if decide (r18.2 ≠ 0) then (some ((zar.mk 0 [] [] [] [] [] [] []), r18.2)) else ((zjd v1.Method).bind fun (r21 : (Bs)) => if v1.Headers.length ≤ 1000000000 then forL (fun (k : Nat) (x : zaf) (s : (List zaf)) => zf0 k x s) (fun (s : (List zaf)) => zkc v1 r5 r7 r18 r21 s) 0 v1.Headers ([] : List zaf) else none)) else none)))
noncomputable def ze6 (s2 : (List zaf)) (k4 : Nat) (x7 : zaf) : Option (Unit ⊕ (Bool)) :=
  (s2[k4]?).bind fun (x10 : zaf) => if (!((x7.Name == x10.Name) && ((x7.Value == x10.Value) && true))) then (some (.inr false)) else (some (.inl ()))
noncomputable def ze7 : Option (Bool) :=
  some true
noncomputable def zby (s1 : (List zaf)) (s2 : (List zaf)) : Option (Bool) :=
  if decide ((s1.length : Int) ≠ (s2.length : Int)) then some false else (if s1.length ≤ 1000000000 then forL (fun (k : Nat) (x : zaf) (s : Unit) => ze6 s2 k x) (fun (s : Unit) => ze7) 0 s1 () else none)
noncomputable def zbv (v26 : Bool) : Option (Bool) :=
  some v26
noncomputable def zhx (a1 : zar) (b2 : zar) : Option (Bool) :=
  if decide (a1.At = b2.At) then (if decide (a1.Method = b2.Method) then (if decide (a1.Host = b2.Host) then (if decide (a1.Path = b2.Path) then (if decide (a1.Query = b2.Query) then (if decide (a1.From = b2.From) then (if decide (a1.Body = b2.Body) then ((zby a1.Headers b2.Headers).bind fun (r17 : (Bool)) => zbv r17) else (zbv false)) else (zbv false)) else (zbv false)) else (zbv false)) else (zbv false)) else (zbv false)) else (zbv false)
noncomputable def zh6 (l1 : (List zaf)) (name2 : Bs) : Option (Int) :=
  (zf5 l1).bind fun (r3 : (Int)) => if decide (r3 ≠ 0) then some r3 else ((zh9 name2).bind fun (r6 : (Bool)) => if !r6 then some 5 else some 0)
noncomputable def zh7 (h1 : zaf) (name2 : Bs) : Option (Bool) :=
  (zku h1.Name name2).bind fun (r3 : (Bool)) => some r3
noncomputable def zjc (out14 : (List Bs)) : Option ((List Bs) ⊕ ((List Bs))) :=
  some (.inl out14)
noncomputable def zh2 (name2 : Bs) (k4 : Nat) (x7 : zaf) (l3 : (List Bs)) : Option ((List Bs) ⊕ ((List Bs))) :=
  (zh7 x7 name2).bind fun (r10 : (Bool)) => if r10 then (if l3.length + 1 ≤ 1000000000 then (zjc (l3 ++ [x7.Value])) else none) else (zjc l3)
noncomputable def zlt (l3 : (List Bs)) : Option ((List Bs)) :=
  some l3
noncomputable def zk3 (l1 : (List zaf)) (name2 : Bs) : Option ((List Bs)) :=
  if l1.length ≤ 1000000000 then forL (fun (k : Nat) (x : zaf) (s : (List Bs)) => zh2 name2 k x s) (fun (s : (List Bs)) => zlt s) 0 l1 [] else none
noncomputable def zn5 (l1 : (List zaf)) (name2 : Bs) : Option ((List Bs) × Int) :=
  (zh6 l1 name2).bind fun (r3 : (Int)) => if decide (r3 ≠ 0) then (some ([], r3)) else ((zk3 l1 name2).bind fun (r6 : ((List Bs))) => some (r6, 0))
noncomputable def zj7 (out12 : (List zaf)) : Option ((List zaf)) :=
  some out12
noncomputable def zgy (done21 : Bool) (out22 : (List zaf)) : Option ((Bool × (List zaf)) ⊕ ((List zaf))) :=
  some (.inl (done21, out22))
noncomputable def zcw (name2 : Bs) (value3 : Bs) (k6 : Nat) (x9 : zaf) (done4 : Bool) (l5 : (List zaf)) : Option ((Bool × (List zaf)) ⊕ ((List zaf))) :=
  (zh7 x9 name2).bind fun (r15 : (Bool)) => if !r15 then (if l5.length + 1 ≤ 1000000000 then (zgy done4 (l5 ++ [x9])) else none) else (if !done4 then (if l5.length + 1 ≤ 1000000000 then (zgy true (l5 ++ [(zaf.mk x9.Name value3)])) else none) else (zgy done4 l5))
noncomputable def zii (name2 : Bs) (value3 : Bs) (done4 : Bool) (l5 : (List zaf)) : Option ((List zaf)) :=
  if !done4 then (if l5.length + 1 ≤ 1000000000 then (zj7 (l5 ++ [(zaf.mk name2 value3)])) else none) else (zj7 l5)
noncomputable def zmn (l1 : (List zaf)) (name2 : Bs) (value3 : Bs) : Option ((List zaf)) :=
  if l1.length ≤ 1000000000 then forL (fun (k : Nat) (x : zaf) (s : Bool × (List zaf)) => zcw name2 value3 k x s.1 s.2) (fun (s : Bool × (List zaf)) => zii name2 value3 s.1 s.2) 0 l1 (false, []) else none
noncomputable def zn4 (l1 : (List zaf)) (name2 : Bs) (value3 : Bs) : Option ((List zaf) × Int) :=
  (zh6 l1 name2).bind fun (r4 : (Int)) => if decide (r4 ≠ 0) then (some ([], r4)) else ((zgn value3).bind fun (r7 : (Bool)) => if !r7 then (some ([], 3)) else ((zmn l1 name2 value3).bind fun (r10 : ((List zaf))) => if decide (50 < (r10.length : Int)) then (some ([], 2)) else (some (r10, 0))))
noncomputable def zdx (p1 : zaf → Option (Bool)) (k2 : Nat) (x5 : zaf) : Option (Unit ⊕ (Int)) :=
  (p1 x5).bind fun (r8 : Bool) => if r8 then (some (.inr (k2 : Int))) else (some (.inl ()))
noncomputable def zdy : Option (Int) :=
  some (-1)
noncomputable def zb5 (s1 : (List zaf)) (p1 : zaf → Option (Bool)) : Option (Int) :=
  if s1.length ≤ 1000000000 then forL (fun (k : Nat) (x : zaf) (s : Unit) => zdx p1 k x) (fun (s : Unit) => zdy) 0 s1 () else none
noncomputable def zbx (j6 : Int) (i17 : Int) (s18 : (List zaf)) : Option ((Int × Int × (List zaf)) ⊕ ((List zaf))) :=
  some (.inl (i17, wr (j6 + 1), s18))
noncomputable def zcm (i19 : Int) (s20 : (List zaf)) : Option ((List zaf)) :=
  if (0 : Int) ≤ i19 ∧ i19 < (s20.length : Int) then (if (0 : Int) ≤ i19 ∧ i19 ≤ ((s20.take i19.toNat ++ List.replicate (s20.length - i19.toNat) (zaf.mk [] [])).length : Int) then (some ((s20.take i19.toNat ++ List.replicate (s20.length - i19.toNat) (zaf.mk [] [])).take i19.toNat)) else none) else none
noncomputable def zds (p1 : zaf → Option (Bool)) (i5 : Int) (j6 : Int) (l7 : (List zaf)) : Option ((Int × Int × (List zaf)) ⊕ ((List zaf))) :=
  if decide (j6 < (l7.length : Int)) then ((at? l7 j6).bind fun (x10 : zaf) => (p1 x10).bind fun (r12 : Bool) => if !r12 then ((at? l7 i5).bind fun (x15 : zaf) => zbx j6 (wr (i5 + 1)) (l7.set i5.toNat x10)) else (zbx j6 i5 l7)) else (Option.map .inr (zcm i5 l7))
noncomputable def zbn (s1 : (List zaf)) (p1 : zaf → Option (Bool)) : Option ((List zaf)) :=
  (zb5 s1 p1).bind fun (r2 : (Int)) => if decide (r2 = (-1)) then some s1 else (iter (fun (s : Int × Int × (List zaf)) => zds p1 s.1 s.2.1 s.2.2) (r2, wr (r2 + 1), s1))
noncomputable def zgc (h1 : zaf) (c2 : Bs) : Option (Bool) :=
  (zh7 h1 c2).bind fun (r3 : (Bool)) => some r3
noncomputable def zkh (l1 : (List zaf)) (name2 : Bs) : Option ((List zaf)) :=
  (zee l1).bind fun (r3 : ((List zaf))) => (zbn r3 (fun (a0 : zaf) => zgc a0 name2)).bind fun (r5 : ((List zaf))) => some r5
noncomputable def zl8 (l1 : (List zaf)) (name2 : Bs) : Option ((List zaf) × Int) :=
  (zh6 l1 name2).bind fun (r3 : (Int)) => if decide (r3 ≠ 0) then (some ([], r3)) else ((zkh l1 name2).bind fun (r6 : ((List zaf))) => some (r6, 0))
noncomputable def zkl (is1 : Bool) (e2 : Int) : Option (Int) :=
  if is1 then some e2 else some 0
noncomputable def zi5 (k2 : Nat) (x5 : Int) : Option (Unit ⊕ (Int)) :=
  if decide (x5 ≠ 0) then (some (.inr x5)) else (some (.inl ()))
noncomputable def znv : Option (Int) :=
  some 0
noncomputable def zkn (l1 : (List Int)) : Option (Int) :=
  if l1.length ≤ 1000000000 then forL (fun (k : Nat) (x : Int) (s : Unit) => zi5 k x) (fun (s : Unit) => znv) 0 l1 () else none
noncomputable def zi2 (a1 : Bs) (b2 : Bs) : Option (Bool) :=
  (zda a1).bind fun (r3 : (Bs)) => (zda b2).bind fun (r5 : (Bs)) => some (decide (r3 = r5))
noncomputable def ziu (out14 : (List Bs)) : Option ((List Bs) ⊕ ((List Bs))) :=
  some (.inl out14)
noncomputable def zhe (name2 : Bs) (k4 : Nat) (x7 : zaf) (l3 : (List Bs)) : Option ((List Bs) ⊕ ((List Bs))) :=
  (zi2 x7.Name name2).bind fun (r10 : (Bool)) => if r10 then (if l3.length + 1 ≤ 1000000000 then (ziu (l3 ++ [x7.Value])) else none) else (ziu l3)
noncomputable def zle (l3 : (List Bs)) : Option ((List Bs)) :=
  some l3
noncomputable def zkj (l1 : (List zaf)) (name2 : Bs) : Option ((List Bs)) :=
  if l1.length ≤ 1000000000 then forL (fun (k : Nat) (x : zaf) (s : (List Bs)) => zhe name2 k x s) (fun (s : (List Bs)) => zle s) 0 l1 [] else none
noncomputable def zfz (h1 : zaf) (c2 : Bs) : Option (Bool) :=
  (zi2 h1.Name c2).bind fun (r3 : (Bool)) => some r3
noncomputable def zit (l1 : (List zaf)) (name2 : Bs) : Option ((List zaf)) :=
  (zee l1).bind fun (r3 : ((List zaf))) => (zbn r3 (fun (a0 : zaf) => zfz a0 name2)).bind fun (r5 : ((List zaf))) => some r5
noncomputable def zha (h1 : zaf) (c2 : Bs) : Option (Bool) :=
  (zi2 h1.Name c2).bind fun (r3 : (Bool)) => some r3
noncomputable def zk5 (l1 : (List zaf)) (name2 : Bs) (value3 : Bs) : Option ((List zaf)) :=
  (zb5 l1 (fun (a0 : zaf) => zha a0 name2)).bind fun (r4 : (Int)) => if decide (r4 < 0) then ((zee l1).bind fun (r7 : ((List zaf))) => if r7.length + 1 ≤ 1000000000 then (some (r7 ++ [(zaf.mk name2 value3)])) else none) else ((sub? l1 0 r4).bind fun (l10 : (List zaf)) => (zee l10).bind fun (r12 : ((List zaf))) => (at? l1 r4).bind fun (x14 : zaf) => if r12.length + 1 ≤ 1000000000 then ((sub? l1 (wr (r4 + 1)) (l1.length : Int)).bind fun (l17 : (List zaf)) => (zit l17 name2).bind fun (r19 : ((List zaf))) => if (r12 ++ [(zaf.mk x14.Name value3)]).length + r19.length ≤ 1000000000 then (some ((r12 ++ [(zaf.mk x14.Name value3)]) ++ r19)) else none) else none)
noncomputable def zhq (s2 : (List Bs)) (k4 : Nat) (x7 : Bs) : Option (Unit ⊕ (Bool)) :=
  (s2[k4]?).bind fun (x10 : Bs) => if decide (x7 ≠ x10) then (some (.inr false)) else (some (.inl ()))
noncomputable def zhr : Option (Bool) :=
  some true
noncomputable def zfq (s1 : (List Bs)) (s2 : (List Bs)) : Option (Bool) :=
  if decide ((s1.length : Int) ≠ (s2.length : Int)) then some false else (if s1.length ≤ 1000000000 then forL (fun (k : Nat) (x : Bs) (s : Unit) => zhq s2 k x) (fun (s : Unit) => zhr) 0 s1 () else none)
noncomputable def zkm  : Option (Bool) :=
  (zek [47, 97, 47, 46, 46, 47, 98]).bind fun (r1 : (Bs × Int)) => some ((decide (r1.2 = 0)) && (decide (r1.1 = [47, 98])))
noncomputable def zbq (v80 : Bool) : Option (Bool) :=
  some v80
noncomputable def zcp (r21 : ((List Bs) × Int)) (r23 : ((List zaf) × Int)) (r25 : ((List zaf) × Int)) (r33 : (Int)) (v46 : (List Bs)) (v47 : (List zaf)) (v52 : Int) (v53 : (List zaf)) : Option (Bool) :=
  if decide (r21.2 = r33) then (if decide (r25.2 = r33) then (if decide (r23.2 = v52) then ((zfq r21.1 v46).bind fun (r60 : (Bool)) => if r60 then ((zby r23.1 v53).bind fun (r64 : (Bool)) => if r64 then ((zby r25.1 v47).bind fun (r68 : (Bool)) => if r68 then ((zkm ).bind fun (r72 : (Bool)) => zbq r72) else (zbq false)) else (zbq false)) else (zbq false)) else (zbq false)) else (zbq false)) else (zbq false)
noncomputable def zcq (r4 : ((List zaf) × zad)) (r6 : (Bs × zad)) (r8 : (Bs × zad)) (r21 : ((List Bs) × Int)) (r23 : ((List zaf) × Int)) (r25 : ((List zaf) × Int)) (r33 : (Int)) (r39 : (Int)) (v46 : (List Bs)) (v47 : (List zaf)) : Option (Bool) :=
  if decide (r39 = 0) then ((zk5 r4.1 r6.1 r8.1).bind fun (r49 : ((List zaf))) => if decide (50 < (r49.length : Int)) then (zcp r21 r23 r25 r33 v46 v47 2 []) else (zcp r21 r23 r25 r33 v46 v47 r39 r49)) else (zcp r21 r23 r25 r33 v46 v47 r39 [])
noncomputable def zc9 (r4 : ((List zaf) × zad)) (r6 : (Bs × zad)) (r8 : (Bs × zad)) (v19 : Bool) : Option (Bool) :=
  if v19 then some false else ((zn5 r4.1 r6.1).bind fun (r21 : ((List Bs) × Int)) => (zn4 r4.1 r6.1 r8.1).bind fun (r23 : ((List zaf) × Int)) => (zl8 r4.1 r6.1).bind fun (r25 : ((List zaf) × Int)) => (zft r4.1).bind fun (r27 : (Int)) => (zi3 r6.1).bind fun (r29 : (Bool)) => (zkl (!r29) 5).bind fun (r31 : (Int)) => (zkn [r27, r31]).bind fun (r33 : (Int)) => (zjq r8.1).bind fun (r35 : (Bool)) => (zkl (!r35) 3).bind fun (r37 : (Int)) => (zkn [r33, r37]).bind fun (r39 : (Int)) => if decide (r33 = 0) then ((zkj r4.1 r6.1).bind fun (r42 : ((List Bs))) => (zit r4.1 r6.1).bind fun (r44 : ((List zaf))) => zcq r4 r6 r8 r21 r23 r25 r33 r39 r42 r44) else (zcq r4 r6 r8 r21 r23 r25 r33 r39 [] []))
noncomputable def zij (v1 : (List Int)) : Option (Bool) :=
  (zf8 (zad.mk v1 0)).bind fun (r2 : (zar × zad)) => (zeg r2.2 5).bind fun (r4 : ((List zaf) × zad)) => (zc0 r4.2).bind fun (r6 : (Bs × zad)) => (zc1 r6.2).bind fun (r8 : (Bs × zad)) => (zk4 r2.1).bind fun (r10 : (zar × Int)) => (zjm r2.1).bind fun (r12 : (zar × Int)) => if decide (r10.2 ≠ r12.2) then (zc9 r4 r6 r8 true) else ((zhx r10.1 r12.1).bind fun (r16 : (Bool)) => zc9 r4 r6 r8 (!r16))
end Go.Proofs.YthgblfklceopgaaGreatDoor
