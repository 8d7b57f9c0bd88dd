/- Plain models of functions. Printed by a program. -/
import Derived.Test.YtbicifgfibafmaaGreatDoorMc
namespace Go.Proofs.YtbicifgfibafmaaGreatDoor
set_option linter.unusedVariables false
set_option maxRecDepth 20000
structure S_gatemake_Stream where
  L : (List Int)
  at_ : Int
structure S_api_Header where
  Name : Bs
  Value : Bs
structure S_api_Request where
  At : Int
  Method : Bs
  Host : Bs
  Path : Bs
  Query : Bs
  From : Bs
  Headers : (List S_api_Header)
  Body : Bs
structure S_api_Response where
  Status : Int
  Headers : (List S_api_Header)
  Body : Bs
structure S_api_Control where
  NoStore : Bool
  NoCache : Bool
  Private : Bool
  Public : Bool
  Must : Bool
  Only : Bool
  MaxAge : Int
  Shared : Int
  Stale : Int
  OnError : Int
  MaxStale : Int
  MinFresh : Int
def ck_S_api_Control_bool (x : Int) : Bool := decide (x = 0) || decide (x = 1) || decide (x = 2) || decide (x = 3) || decide (x = 4) || decide (x = 5)
def gt_S_api_Control_bool (c : S_api_Control) (x : Int) : Bool := if x = 0 then c.NoStore else if x = 1 then c.NoCache else if x = 2 then c.Private else if x = 3 then c.Public else if x = 4 then c.Must else if x = 5 then c.Only else false
def st_S_api_Control_bool (c : S_api_Control) (x : Int) (y : Bool) : S_api_Control := if x = 0 then S_api_Control.mk y c.NoCache c.Private c.Public c.Must c.Only c.MaxAge c.Shared c.Stale c.OnError c.MaxStale c.MinFresh else if x = 1 then S_api_Control.mk c.NoStore y c.Private c.Public c.Must c.Only c.MaxAge c.Shared c.Stale c.OnError c.MaxStale c.MinFresh else if x = 2 then S_api_Control.mk c.NoStore c.NoCache y c.Public c.Must c.Only c.MaxAge c.Shared c.Stale c.OnError c.MaxStale c.MinFresh else if x = 3 then S_api_Control.mk c.NoStore c.NoCache c.Private y c.Must c.Only c.MaxAge c.Shared c.Stale c.OnError c.MaxStale c.MinFresh else if x = 4 then S_api_Control.mk c.NoStore c.NoCache c.Private c.Public y c.Only c.MaxAge c.Shared c.Stale c.OnError c.MaxStale c.MinFresh else if x = 5 then S_api_Control.mk c.NoStore c.NoCache c.Private c.Public c.Must y c.MaxAge c.Shared c.Stale c.OnError c.MaxStale c.MinFresh else c
def ck_S_api_Control_int (x : Int) : Bool := decide (x = 6) || decide (x = 7) || decide (x = 8) || decide (x = 9) || decide (x = 10) || decide (x = 11)
def gt_S_api_Control_int (c : S_api_Control) (x : Int) : Int := if x = 6 then c.MaxAge else if x = 7 then c.Shared else if x = 8 then c.Stale else if x = 9 then c.OnError else if x = 10 then c.MaxStale else if x = 11 then c.MinFresh else 0
def st_S_api_Control_int (c : S_api_Control) (x : Int) (y : Int) : S_api_Control := if x = 6 then S_api_Control.mk c.NoStore c.NoCache c.Private c.Public c.Must c.Only y c.Shared c.Stale c.OnError c.MaxStale c.MinFresh else if x = 7 then S_api_Control.mk c.NoStore c.NoCache c.Private c.Public c.Must c.Only c.MaxAge y c.Stale c.OnError c.MaxStale c.MinFresh else if x = 8 then S_api_Control.mk c.NoStore c.NoCache c.Private c.Public c.Must c.Only c.MaxAge c.Shared y c.OnError c.MaxStale c.MinFresh else if x = 9 then S_api_Control.mk c.NoStore c.NoCache c.Private c.Public c.Must c.Only c.MaxAge c.Shared c.Stale y c.MaxStale c.MinFresh else if x = 10 then S_api_Control.mk c.NoStore c.NoCache c.Private c.Public c.Must c.Only c.MaxAge c.Shared c.Stale c.OnError y c.MinFresh else if x = 11 then S_api_Control.mk c.NoStore c.NoCache c.Private c.Public c.Must c.Only c.MaxAge c.Shared c.Stale c.OnError c.MaxStale y else c
noncomputable def gatemake_Below_J1 (x6 : Int) : Option (Int) :=
  some x6
noncomputable def m_gatemake_Below (x1 : Int) (n2 : Int) : Option (Int) :=
  if decide (n2 < 1) then some 0 else (if n2 ≠ 0 then (if decide ((Int.tmod x1 n2) < 0) then (gatemake_Below_J1 (wr ((Int.tmod x1 n2) + n2))) else (gatemake_Below_J1 (Int.tmod x1 n2))) else none)
noncomputable def m_gatemake_Stream_Next (s1 : S_gatemake_Stream) (n2 : Int) : Option (Int × S_gatemake_Stream) :=
  if decide ((s1.L.length : Int) = 0) then ((m_gatemake_Below (wr ((wr (s1.at_ + 1)) * 7919)) n2).bind fun (r4 : (Int)) => some (r4, (S_gatemake_Stream.mk s1.L (wr (s1.at_ + 1))))) else (if (s1.L.length : Int) ≠ 0 then (if ((0 : Int) ≤ (wr ((wr (s1.at_ + 1)) - 1)) ∧ (wr ((wr (s1.at_ + 1)) - 1)) ≤ 9223372036854775807) ∧ (0 : Int) < (s1.L.length : Int) then ((at? s1.L (Int.tmod (wr ((wr (s1.at_ + 1)) - 1)) (s1.L.length : Int))).bind fun (x8 : Int) => (m_gatemake_Below x8 1073741824).bind fun (r10 : (Int)) => (m_gatemake_Below (wr (r10 + (wr (((wr ((wr (s1.at_ + 1)) - 1)) / (s1.L.length : Int)) * (wr (7919 + (Int.tmod (wr ((wr (s1.at_ + 1)) - 1)) (s1.L.length : Int)))))))) n2).bind fun (r12 : (Int)) => some (r12, (S_gatemake_Stream.mk s1.L (wr (s1.at_ + 1))))) else none) else none)
noncomputable def m_gatemake_Stream_Range (s1 : S_gatemake_Stream) (low2 : Int) (high3 : Int) : Option (Int × S_gatemake_Stream) :=
  if decide (high3 < low2) then (some (low2, s1)) else ((m_gatemake_Stream_Next s1 (wr ((wr (high3 - low2)) + 1))).bind fun (r5 : (Int × S_gatemake_Stream)) => some (wr (low2 + r5.1), r5.2))
noncomputable def m_gatemake_Stream_Some (s1 : S_gatemake_Stream) (l2 : (List Bs)) : Option (Bs × S_gatemake_Stream) :=
  (m_gatemake_Stream_Next s1 (l2.length : Int)).bind fun (r3 : (Int × S_gatemake_Stream)) => (at? l2 r3.1).bind fun (x5 : Bs) => some (x5, r3.2)
noncomputable def gatemake_Stream_Words_L1 (l4 : (List Bs)) (k8 : Nat) (c5 : (List Int)) (c6 : Int) (l7 : (List Bs)) : Option (((List Int) × Int × (List Bs)) ⊕ (Bs × S_gatemake_Stream)) :=
  (m_gatemake_Stream_Some (S_gatemake_Stream.mk c5 c6) l4).bind fun (r14 : (Bs × S_gatemake_Stream)) => if l7.length + 1 ≤ 1000000000 then (some (.inl (r14.2.L, r14.2.at_, (l7 ++ [r14.1])))) else none
noncomputable def gatemake_Stream_Words_E1 (between3 : Bs) (c5 : (List Int)) (c6 : Int) (l7 : (List Bs)) : Option (Bs × S_gatemake_Stream) :=
  (m_strings_Join l7 between3).bind fun (r11 : (Bs)) => some (r11, (S_gatemake_Stream.mk c5 c6))
noncomputable def m_gatemake_Stream_Words (s1 : S_gatemake_Stream) (many2 : Int) (between3 : Bs) (l4 : (List Bs)) : Option (Bs × S_gatemake_Stream) :=
  if many2 ≤ 1000000000 then rng (fun (k : Nat) (s : (List Int) × Int × (List Bs)) => gatemake_Stream_Words_L1 l4 k s.1 s.2.1 s.2.2) (fun (s : (List Int) × Int × (List Bs)) => gatemake_Stream_Words_E1 between3 s.1 s.2.1 s.2.2) many2.toNat 0 (s1.L, s1.at_, []) else none
noncomputable def m_gatemake_Stream_Flip (s1 : S_gatemake_Stream) (n2 : Int) : Option (Bool × S_gatemake_Stream) :=
  (m_gatemake_Stream_Next s1 n2).bind fun (r3 : (Int × S_gatemake_Stream)) => some (decide (r3.1 = 0), r3.2)
noncomputable def gatemake_Stream_TagHeader_J1 (t13 : Bs) (c14 : (List Int)) (c15 : Int) : Option (Bs × S_gatemake_Stream) :=
  some (t13, (S_gatemake_Stream.mk c14 c15))
noncomputable def m_gatemake_Stream_TagHeader (s1 : S_gatemake_Stream) : Option (Bs × S_gatemake_Stream) :=
  (m_gatemake_Stream_Range s1 1 3).bind fun (r2 : (Int × S_gatemake_Stream)) => (m_gatemake_Stream_Some r2.2 ([[44], [44, 32], [32, 44, 32]])).bind fun (r4 : (Bs × S_gatemake_Stream)) => (m_gatemake_Stream_Words r4.2 r2.1 r4.1 ([[34, 97, 34], [87, 47, 34, 98, 34], [34, 34], [34, 99, 47, 100, 34]])).bind fun (r6 : (Bs × S_gatemake_Stream)) => (m_gatemake_Stream_Flip r6.2 8).bind fun (r8 : (Bool × S_gatemake_Stream)) => if r8.1 then ((m_gatemake_Stream_Some r8.2 ([[42], [42, 32], [], [97], [34, 97], [34, 97, 34, 34, 98, 34], [119, 47, 34, 97, 34], [34, 97, 32, 98, 34], [44, 34, 97, 34]])).bind fun (r11 : (Bs × S_gatemake_Stream)) => gatemake_Stream_TagHeader_J1 r11.1 r11.2.L r11.2.at_) else (gatemake_Stream_TagHeader_J1 r6.1 r8.2.L r8.2.at_)
noncomputable def gatemake_Stream_AskValue_J1 (t11 : Bs) (c12 : (List Int)) (c13 : Int) : Option (Bs × S_gatemake_Stream) :=
  some (t11, (S_gatemake_Stream.mk c12 c13))
noncomputable def m_gatemake_Stream_AskValue (s1 : S_gatemake_Stream) : Option (Bs × S_gatemake_Stream) :=
  (m_gatemake_Stream_Range s1 1 2).bind fun (r2 : (Int × S_gatemake_Stream)) => (m_gatemake_Stream_Words r2.2 r2.1 [44, 32] ([[109, 97, 120, 45, 97, 103, 101, 61, 51, 48], [109, 97, 120, 45, 97, 103, 101, 61, 48], [109, 105, 110, 45, 102, 114, 101, 115, 104, 61, 50, 48], [109, 97, 120, 45, 115, 116, 97, 108, 101, 61, 49, 53], [110, 111, 45, 99, 97, 99, 104, 101], [111, 110, 108, 121, 45, 105, 102, 45, 99, 97, 99, 104, 101, 100], [109, 97, 120, 45, 115, 116, 97, 108, 101, 61, 49, 48, 48, 48], [110, 111, 45, 115, 116, 111, 114, 101]])).bind fun (r4 : (Bs × S_gatemake_Stream)) => (m_gatemake_Stream_Flip r4.2 20).bind fun (r6 : (Bool × S_gatemake_Stream)) => if r6.1 then ((m_gatemake_Stream_Some r6.2 ([[109, 97, 120, 45, 115, 116, 97, 108, 101], [109, 105, 110, 45, 102, 114, 101, 115, 104, 61, 120]])).bind fun (r9 : (Bs × S_gatemake_Stream)) => gatemake_Stream_AskValue_J1 r9.1 r9.2.L r9.2.at_) else (gatemake_Stream_AskValue_J1 r4.1 r6.2.L r6.2.at_)
noncomputable def m_gatemake_Stream_Changed (s1 : S_gatemake_Stream) (t2 : Bs) (v3 : Bs) : Option (Bs × S_gatemake_Stream) :=
  if ((decide (t2 = [])) || (decide (v3 = []))) then (some (v3, s1)) else ((m_gatemake_Stream_Next s1 (t2.length : Int)).bind fun (r5 : (Int × S_gatemake_Stream)) => (m_gatemake_Stream_Next r5.2 (v3.length : Int)).bind fun (r7 : (Int × S_gatemake_Stream)) => (at? v3 r7.1).bind fun (x9 : UInt8) => (m_gatemake_Stream_Next r7.2 3).bind fun (r11 : (Int × S_gatemake_Stream)) => if decide (r11.1 = 0) then ((sub? t2 0 r5.1).bind fun (l14 : Bs) => if l14.length + (encL (IntKind.wrap .i32 (x9.toNat : Int))).length ≤ 1000000000 then ((sub? t2 (wr (r5.1 + 1)) (t2.length : Int)).bind fun (l17 : Bs) => if (l14 ++ (encL (IntKind.wrap .i32 (x9.toNat : Int)))).length + l17.length ≤ 1000000000 then (some (((l14 ++ (encL (IntKind.wrap .i32 (x9.toNat : Int)))) ++ l17), r11.2)) else none) else none) else (if decide (r11.1 = 1) then ((sub? t2 0 r5.1).bind fun (l21 : Bs) => if l21.length + (encL (IntKind.wrap .i32 (x9.toNat : Int))).length ≤ 1000000000 then ((sub? t2 r5.1 (t2.length : Int)).bind fun (l24 : Bs) => if (l21 ++ (encL (IntKind.wrap .i32 (x9.toNat : Int)))).length + l24.length ≤ 1000000000 then (some (((l21 ++ (encL (IntKind.wrap .i32 (x9.toNat : Int)))) ++ l24), r11.2)) else none) else none) else ((sub? t2 0 r5.1).bind fun (l27 : Bs) => (sub? t2 (wr (r5.1 + 1)) (t2.length : Int)).bind fun (l29 : Bs) => if l27.length + l29.length ≤ 1000000000 then (some ((l27 ++ l29), r11.2)) else none)))
noncomputable def gatemake_Stream_PathName_J2 (p23 : Bs) (c24 : (List Int)) (c25 : Int) : Option (Bs × S_gatemake_Stream) :=
  some (p23, (S_gatemake_Stream.mk c24 c25))
noncomputable def gatemake_Stream_PathName_J1 (p15 : Bs) (c16 : (List Int)) (c17 : Int) : Option (Bs × S_gatemake_Stream) :=
  (m_gatemake_Stream_Flip (S_gatemake_Stream.mk c16 c17) 12).bind fun (r18 : (Bool × S_gatemake_Stream)) => if r18.1 then ((m_gatemake_Stream_Changed r18.2 p15 [47, 46, 37, 50, 102, 65]).bind fun (r21 : (Bs × S_gatemake_Stream)) => gatemake_Stream_PathName_J2 r21.1 r21.2.L r21.2.at_) else (gatemake_Stream_PathName_J2 p15 r18.2.L r18.2.at_)
noncomputable def m_gatemake_Stream_PathName (s1 : S_gatemake_Stream) : Option (Bs × S_gatemake_Stream) :=
  (m_gatemake_Stream_Range s1 0 4).bind fun (r2 : (Int × S_gatemake_Stream)) => (m_gatemake_Stream_Words r2.2 r2.1 [47] ([[97], [98], [37, 52, 49], [37, 50, 102], [37, 55, 101], [46], [46, 46], [], [120, 59, 121], [99, 37, 50, 48, 100], [37, 99, 51, 37, 97, 52], [65], [97, 46, 98], [126]])).bind fun (r4 : (Bs × S_gatemake_Stream)) => if [47].length + r4.1.length ≤ 1000000000 then ((m_gatemake_Stream_Flip r4.2 12).bind fun (r7 : (Bool × S_gatemake_Stream)) => if r7.1 then ((m_strings_Repeat [37, 50, 48] 340).bind fun (r10 : (Bs)) => if [47].length + r10.length ≤ 1000000000 then ((m_gatemake_Stream_Some r7.2 ([[], [97], [47, 97, 63, 98], [47, 97, 35], [47, 37], [47, 37, 52], [47, 37, 122, 122], [47, 127], [47, 97, 32, 98], ([47] ++ r10)])).bind fun (r13 : (Bs × S_gatemake_Stream)) => gatemake_Stream_PathName_J1 r13.1 r13.2.L r13.2.at_) else none) else (gatemake_Stream_PathName_J1 ([47] ++ r4.1) r7.2.L r7.2.at_)) else none
noncomputable def gatemake_Stream_QueryName_J1 (q13 : Bs) (c14 : (List Int)) (c15 : Int) : Option (Bs × S_gatemake_Stream) :=
  some (q13, (S_gatemake_Stream.mk c14 c15))
noncomputable def m_gatemake_Stream_QueryName (s1 : S_gatemake_Stream) : Option (Bs × S_gatemake_Stream) :=
  (m_gatemake_Stream_Range s1 0 4).bind fun (r2 : (Int × S_gatemake_Stream)) => (m_gatemake_Stream_Words r2.2 r2.1 [38] ([[97, 61, 49], [98, 61, 50], [97, 61], [61, 120], [61], [99], [], [97, 61, 37, 52, 49, 43, 37, 50, 66], [100, 61, 120, 37, 50, 54, 121], [98, 61, 37, 99, 51], [97, 61, 49, 61, 50], [97, 63, 98, 61, 47]])).bind fun (r4 : (Bs × S_gatemake_Stream)) => (m_gatemake_Stream_Flip r4.2 12).bind fun (r6 : (Bool × S_gatemake_Stream)) => if r6.1 then ((m_gatemake_Stream_Words r6.2 101 [38] ([[120]])).bind fun (r9 : (Bs × S_gatemake_Stream)) => (m_gatemake_Stream_Some r9.2 ([[35], [97, 37], [37, 103, 49, 61, 50], [97, 32, 98], [128], r9.1])).bind fun (r11 : (Bs × S_gatemake_Stream)) => gatemake_Stream_QueryName_J1 r11.1 r11.2.L r11.2.at_) else (gatemake_Stream_QueryName_J1 r4.1 r6.2.L r6.2.at_)
noncomputable def gatemake_Stream_CacheRequest_J5 (v2 : Int) (r3 : (Bs × S_gatemake_Stream)) (r5 : (Bs × S_gatemake_Stream)) (l46 : (List S_api_Header)) (c54 : (List Int)) (c55 : Int) (c56 : Bs) (c57 : Bs) : Option (S_api_Request × S_gatemake_Stream) :=
  some ((S_api_Request.mk v2 r3.1 r5.1 c56 c57 [] l46 []), (S_gatemake_Stream.mk c54 c55))
noncomputable def gatemake_Stream_CacheRequest_J4 (v2 : Int) (r3 : (Bs × S_gatemake_Stream)) (r5 : (Bs × S_gatemake_Stream)) (r7 : (Bs × S_gatemake_Stream)) (r9 : (Bs × S_gatemake_Stream)) (c44 : (List Int)) (c45 : Int) (l46 : (List S_api_Header)) : Option (S_api_Request × S_gatemake_Stream) :=
  (m_gatemake_Stream_Flip (S_gatemake_Stream.mk c44 c45) 40).bind fun (r47 : (Bool × S_gatemake_Stream)) => if r47.1 then ((m_gatemake_Stream_PathName r47.2).bind fun (r50 : (Bs × S_gatemake_Stream)) => (m_gatemake_Stream_QueryName r50.2).bind fun (r52 : (Bs × S_gatemake_Stream)) => gatemake_Stream_CacheRequest_J5 v2 r3 r5 l46 r52.2.L r52.2.at_ r50.1 r52.1) else (gatemake_Stream_CacheRequest_J5 v2 r3 r5 l46 r47.2.L r47.2.at_ r7.1 r9.1)
noncomputable def gatemake_Stream_CacheRequest_J3 (v2 : Int) (r3 : (Bs × S_gatemake_Stream)) (r5 : (Bs × S_gatemake_Stream)) (r7 : (Bs × S_gatemake_Stream)) (r9 : (Bs × S_gatemake_Stream)) (c35 : (List Int)) (c36 : Int) (l37 : (List S_api_Header)) : Option (S_api_Request × S_gatemake_Stream) :=
  (m_gatemake_Stream_Flip (S_gatemake_Stream.mk c35 c36) 8).bind fun (r38 : (Bool × S_gatemake_Stream)) => if r38.1 then ((m_gatemake_Stream_Some r38.2 ([[34, 118, 49, 34], [87, 47, 34, 118, 50, 34, 44, 32, 34, 118, 49, 34], [42], [118, 49]])).bind fun (r41 : (Bs × S_gatemake_Stream)) => if l37.length + 1 ≤ 1000000000 then (gatemake_Stream_CacheRequest_J4 v2 r3 r5 r7 r9 r41.2.L r41.2.at_ (l37 ++ ([(S_api_Header.mk [105, 102, 45, 110, 111, 110, 101, 45, 109, 97, 116, 99, 104] r41.1)]))) else none) else (gatemake_Stream_CacheRequest_J4 v2 r3 r5 r7 r9 r38.2.L r38.2.at_ l37)
noncomputable def gatemake_Stream_CacheRequest_J2 (v2 : Int) (r3 : (Bs × S_gatemake_Stream)) (r5 : (Bs × S_gatemake_Stream)) (r7 : (Bs × S_gatemake_Stream)) (r9 : (Bs × S_gatemake_Stream)) (c28 : (List Int)) (c29 : Int) (l30 : (List S_api_Header)) : Option (S_api_Request × S_gatemake_Stream) :=
  (m_gatemake_Stream_Flip (S_gatemake_Stream.mk c28 c29) 12).bind fun (r31 : (Bool × S_gatemake_Stream)) => if r31.1 then (if l30.length + 1 ≤ 1000000000 then (gatemake_Stream_CacheRequest_J3 v2 r3 r5 r7 r9 r31.2.L r31.2.at_ (l30 ++ ([(S_api_Header.mk [97, 117, 116, 104, 111, 114, 105, 122, 97, 116, 105, 111, 110] [66, 101, 97, 114, 101, 114, 32, 120])]))) else none) else (gatemake_Stream_CacheRequest_J3 v2 r3 r5 r7 r9 r31.2.L r31.2.at_ l30)
noncomputable def gatemake_Stream_CacheRequest_J1 (v2 : Int) (r3 : (Bs × S_gatemake_Stream)) (r5 : (Bs × S_gatemake_Stream)) (r7 : (Bs × S_gatemake_Stream)) (r9 : (Bs × S_gatemake_Stream)) (c19 : (List Int)) (c20 : Int) (l21 : (List S_api_Header)) : Option (S_api_Request × S_gatemake_Stream) :=
  (m_gatemake_Stream_Flip (S_gatemake_Stream.mk c19 c20) 4).bind fun (r22 : (Bool × S_gatemake_Stream)) => if r22.1 then ((m_gatemake_Stream_AskValue r22.2).bind fun (r25 : (Bs × S_gatemake_Stream)) => if l21.length + 1 ≤ 1000000000 then (gatemake_Stream_CacheRequest_J2 v2 r3 r5 r7 r9 r25.2.L r25.2.at_ (l21 ++ ([(S_api_Header.mk [99, 97, 99, 104, 101, 45, 99, 111, 110, 116, 114, 111, 108] r25.1)]))) else none) else (gatemake_Stream_CacheRequest_J2 v2 r3 r5 r7 r9 r22.2.L r22.2.at_ l21)
noncomputable def m_gatemake_Stream_CacheRequest (s1 : S_gatemake_Stream) (v2 : Int) : Option (S_api_Request × S_gatemake_Stream) :=
  (m_gatemake_Stream_Some s1 ([[71, 69, 84], [71, 69, 84], [71, 69, 84], [71, 69, 84], [72, 69, 65, 68], [80, 79, 83, 84]])).bind fun (r3 : (Bs × S_gatemake_Stream)) => (m_gatemake_Stream_Some r3.2 ([[97, 46, 98], [97, 46, 98], [65, 46, 66, 58, 56, 48], [99, 46, 100]])).bind fun (r5 : (Bs × S_gatemake_Stream)) => (m_gatemake_Stream_Some r5.2 ([[47, 120], [47, 120], [47, 120, 47, 46, 47], [47, 37, 55, 56], [47, 121]])).bind fun (r7 : (Bs × S_gatemake_Stream)) => (m_gatemake_Stream_Some r7.2 ([[], [], [98, 61, 50, 38, 97, 61, 49], [97, 61, 49, 38, 98, 61, 50]])).bind fun (r9 : (Bs × S_gatemake_Stream)) => (m_gatemake_Stream_Flip r9.2 3).bind fun (r11 : (Bool × S_gatemake_Stream)) => if r11.1 then ((m_gatemake_Stream_Some r11.2 ([[97, 99, 99, 101, 112, 116, 45, 108, 97, 110, 103, 117, 97, 103, 101], [65, 99, 99, 101, 112, 116, 45, 76, 97, 110, 103, 117, 97, 103, 101]])).bind fun (r14 : (Bs × S_gatemake_Stream)) => (m_gatemake_Stream_Some r14.2 ([[100, 101], [101, 110]])).bind fun (r16 : (Bs × S_gatemake_Stream)) => if ([] : List S_api_Header).length + 1 ≤ 1000000000 then (gatemake_Stream_CacheRequest_J1 v2 r3 r5 r7 r9 r16.2.L r16.2.at_ (([] : List S_api_Header) ++ [(S_api_Header.mk r14.1 r16.1)])) else none) else (gatemake_Stream_CacheRequest_J1 v2 r3 r5 r7 r9 r11.2.L r11.2.at_ ([] : List S_api_Header))
noncomputable def m_gatemake_Stream_Pick (s1 : S_gatemake_Stream) (l2 : (List Int)) : Option (Int × S_gatemake_Stream) :=
  (m_gatemake_Stream_Next s1 (l2.length : Int)).bind fun (r3 : (Int × S_gatemake_Stream)) => (at? l2 r3.1).bind fun (x5 : Int) => some (x5, r3.2)
noncomputable def gatemake_Stream_ControlValue_J2 (t19 : Bs) (c20 : (List Int)) (c21 : Int) : Option (Bs × S_gatemake_Stream) :=
  some (t19, (S_gatemake_Stream.mk c20 c21))
noncomputable def gatemake_Stream_ControlValue_J1 (t11 : Bs) (c12 : (List Int)) (c13 : Int) : Option (Bs × S_gatemake_Stream) :=
  (m_gatemake_Stream_Flip (S_gatemake_Stream.mk c12 c13) 20).bind fun (r14 : (Bool × S_gatemake_Stream)) => if r14.1 then ((m_gatemake_Stream_Some r14.2 ([[109, 97, 120, 45, 97, 103, 101], [110, 111, 45, 99, 97, 99, 104, 101, 61, 49], [109, 97, 120, 45, 97, 103, 101, 61, 45, 49], [109, 97, 120, 45, 97, 103, 101, 61, 48, 49], [109, 97, 120, 45, 97, 103, 101, 61, 49, 48, 48, 48, 48, 48, 48, 48, 49], [61, 49], [97, 32, 98], [109, 97, 120, 45, 97, 103, 101, 61, 54, 48, 32, 44, 32, 44, 32, 110, 111, 45, 99, 97, 99, 104, 101]])).bind fun (r17 : (Bs × S_gatemake_Stream)) => gatemake_Stream_ControlValue_J2 r17.1 r17.2.L r17.2.at_) else (gatemake_Stream_ControlValue_J2 t11 r14.2.L r14.2.at_)
noncomputable def m_gatemake_Stream_ControlValue (s1 : S_gatemake_Stream) : Option (Bs × S_gatemake_Stream) :=
  (m_gatemake_Stream_Range s1 0 3).bind fun (r2 : (Int × S_gatemake_Stream)) => (m_gatemake_Stream_Words r2.2 r2.1 [44, 32] ([[109, 97, 120, 45, 97, 103, 101, 61, 54, 48], [109, 97, 120, 45, 97, 103, 101, 61, 54, 48], [109, 97, 120, 45, 97, 103, 101, 61, 48], [109, 97, 120, 45, 97, 103, 101, 61, 49, 48], [115, 45, 109, 97, 120, 97, 103, 101, 61, 51, 48], [110, 111, 45, 99, 97, 99, 104, 101], [112, 117, 98, 108, 105, 99], [109, 117, 115, 116, 45, 114, 101, 118, 97, 108, 105, 100, 97, 116, 101], [115, 116, 97, 108, 101, 45, 119, 104, 105, 108, 101, 45, 114, 101, 118, 97, 108, 105, 100, 97, 116, 101, 61, 50, 48], [115, 116, 97, 108, 101, 45, 105, 102, 45, 101, 114, 114, 111, 114, 61, 49, 48, 48], [120, 61, 49], [121], [77, 97, 120, 45, 65, 103, 101, 61, 57, 48]])).bind fun (r4 : (Bs × S_gatemake_Stream)) => (m_gatemake_Stream_Flip r4.2 10).bind fun (r6 : (Bool × S_gatemake_Stream)) => if r6.1 then ((m_gatemake_Stream_Words r6.2 2 [44] ([[110, 111, 45, 115, 116, 111, 114, 101], [112, 114, 105, 118, 97, 116, 101], [109, 97, 120, 45, 97, 103, 101, 61, 54, 48], [111, 110, 108, 121, 45, 105, 102, 45, 99, 97, 99, 104, 101, 100], [105, 109, 109, 117, 116, 97, 98, 108, 101]])).bind fun (r9 : (Bs × S_gatemake_Stream)) => gatemake_Stream_ControlValue_J1 r9.1 r9.2.L r9.2.at_) else (gatemake_Stream_ControlValue_J1 r4.1 r6.2.L r6.2.at_)
noncomputable def m_gatemake_Stream_CacheResponse_1 (name1 : Bs) (value2 : Bs) (c3 : S_api_Response) : Option (S_api_Response) :=
  if c3.Headers.length + 1 ≤ 1000000000 then (some (S_api_Response.mk c3.Status (c3.Headers ++ [(S_api_Header.mk name1 value2)]) c3.Body)) else none
noncomputable def m_gatemake_Stream_Odd (s1 : S_gatemake_Stream) (low2 : Int) (high3 : Int) : Option (Int × S_gatemake_Stream) :=
  (m_gatemake_Stream_Flip s1 12).bind fun (r4 : (Bool × S_gatemake_Stream)) => if r4.1 then ((m_gatemake_Stream_Pick r4.2 [wr (low2 - 1), wr (high3 + 1), low2, high3, (-1099511627776), 1099511627776]).bind fun (r7 : (Int × S_gatemake_Stream)) => some (r7.1, r7.2)) else ((m_gatemake_Stream_Range r4.2 low2 high3).bind fun (r9 : (Int × S_gatemake_Stream)) => some (r9.1, r9.2))
noncomputable def gatemake_Stream_CacheResponse_J7 (l85 : (List S_api_Header)) (c87 : Bs) (c93 : (List Int)) (c94 : Int) (c95 : Int) : Option (S_api_Response × S_gatemake_Stream) :=
  some ((S_api_Response.mk c95 l85 c87), (S_gatemake_Stream.mk c93 c94))
noncomputable def gatemake_Stream_CacheResponse_J6 (c83 : (List Int)) (c84 : Int) (l85 : (List S_api_Header)) (c86 : Int) (c87 : Bs) : Option (S_api_Response × S_gatemake_Stream) :=
  (m_gatemake_Stream_Flip (S_gatemake_Stream.mk c83 c84) 40).bind fun (r88 : (Bool × S_gatemake_Stream)) => if r88.1 then ((m_gatemake_Stream_Odd r88.2 100 599).bind fun (r91 : (Int × S_gatemake_Stream)) => gatemake_Stream_CacheResponse_J7 l85 c87 r91.2.L r91.2.at_ r91.1) else (gatemake_Stream_CacheResponse_J7 l85 c87 r88.2.L r88.2.at_ c86)
noncomputable def gatemake_Stream_CacheResponse_J5 (c67 : (List Int)) (c68 : Int) (l69 : (List S_api_Header)) (c70 : Int) (c71 : Bs) : Option (S_api_Response × S_gatemake_Stream) :=
  (m_gatemake_Stream_Flip (S_gatemake_Stream.mk c67 c68) 30).bind fun (r72 : (Bool × S_gatemake_Stream)) => if r72.1 then ((m_gatemake_Stream_Some r72.2 ([[118, 97, 114, 121], [99, 97, 99, 104, 101, 45, 116, 97, 103]])).bind fun (r75 : (Bs × S_gatemake_Stream)) => (m_gatemake_Stream_Words r75.2 12 [44] ([[104, 49], [104, 50], [104, 51], [104, 52], [104, 53], [104, 54], [104, 55], [104, 56], [104, 57], [104, 97], [104, 98], [104, 99]])).bind fun (r77 : (Bs × S_gatemake_Stream)) => (m_gatemake_Stream_Some r77.2 ([[97, 32, 98], [65], [], r77.1])).bind fun (r79 : (Bs × S_gatemake_Stream)) => (m_gatemake_Stream_CacheResponse_1 r75.1 r79.1 (S_api_Response.mk c70 l69 c71)).bind fun (r81 : (S_api_Response)) => gatemake_Stream_CacheResponse_J6 r79.2.L r79.2.at_ r81.Headers r81.Status r81.Body) else (gatemake_Stream_CacheResponse_J6 r72.2.L r72.2.at_ l69 c70 c71)
noncomputable def gatemake_Stream_CacheResponse_J4 (c55 : (List Int)) (c56 : Int) (l57 : (List S_api_Header)) (c58 : Int) (c59 : Bs) : Option (S_api_Response × S_gatemake_Stream) :=
  (m_gatemake_Stream_Flip (S_gatemake_Stream.mk c55 c56) 6).bind fun (r60 : (Bool × S_gatemake_Stream)) => if r60.1 then ((m_gatemake_Stream_Some r60.2 ([[53], [53, 48], [120], [45, 49], [49, 48, 48, 48, 48, 48, 48, 48, 49]])).bind fun (r63 : (Bs × S_gatemake_Stream)) => (m_gatemake_Stream_CacheResponse_1 [97, 103, 101] r63.1 (S_api_Response.mk c58 l57 c59)).bind fun (r65 : (S_api_Response)) => gatemake_Stream_CacheResponse_J5 r63.2.L r63.2.at_ r65.Headers r65.Status r65.Body) else (gatemake_Stream_CacheResponse_J5 r60.2.L r60.2.at_ l57 c58 c59)
noncomputable def gatemake_Stream_CacheResponse_J3 (c43 : (List Int)) (c44 : Int) (l45 : (List S_api_Header)) (c46 : Int) (c47 : Bs) : Option (S_api_Response × S_gatemake_Stream) :=
  (m_gatemake_Stream_Flip (S_gatemake_Stream.mk c43 c44) 4).bind fun (r48 : (Bool × S_gatemake_Stream)) => if r48.1 then ((m_gatemake_Stream_Some r48.2 ([[114, 101, 100], [114, 101, 100, 44, 32, 98, 108, 117, 101], [98, 108, 117, 101, 32, 103, 114, 101, 101, 110], [114, 101, 100, 32, 114, 101, 100]])).bind fun (r51 : (Bs × S_gatemake_Stream)) => (m_gatemake_Stream_CacheResponse_1 [99, 97, 99, 104, 101, 45, 116, 97, 103] r51.1 (S_api_Response.mk c46 l45 c47)).bind fun (r53 : (S_api_Response)) => gatemake_Stream_CacheResponse_J4 r51.2.L r51.2.at_ r53.Headers r53.Status r53.Body) else (gatemake_Stream_CacheResponse_J4 r48.2.L r48.2.at_ l45 c46 c47)
noncomputable def gatemake_Stream_CacheResponse_J2 (c29 : (List Int)) (c30 : Int) (l31 : (List S_api_Header)) (c32 : Int) (c33 : Bs) : Option (S_api_Response × S_gatemake_Stream) :=
  (m_gatemake_Stream_Flip (S_gatemake_Stream.mk c29 c30) 2).bind fun (r34 : (Bool × S_gatemake_Stream)) => if r34.1 then ((m_gatemake_Stream_Some r34.2 ([[101, 116, 97, 103], [69, 84, 97, 103]])).bind fun (r37 : (Bs × S_gatemake_Stream)) => (m_gatemake_Stream_Some r37.2 ([[34, 118, 49, 34], [87, 47, 34, 118, 50, 34], [118, 51]])).bind fun (r39 : (Bs × S_gatemake_Stream)) => (m_gatemake_Stream_CacheResponse_1 r37.1 r39.1 (S_api_Response.mk c32 l31 c33)).bind fun (r41 : (S_api_Response)) => gatemake_Stream_CacheResponse_J3 r39.2.L r39.2.at_ r41.Headers r41.Status r41.Body) else (gatemake_Stream_CacheResponse_J3 r34.2.L r34.2.at_ l31 c32 c33)
noncomputable def gatemake_Stream_CacheResponse_J1 (c17 : (List Int)) (c18 : Int) (l19 : (List S_api_Header)) (c20 : Int) (c21 : Bs) : Option (S_api_Response × S_gatemake_Stream) :=
  (m_gatemake_Stream_Flip (S_gatemake_Stream.mk c17 c18) 3).bind fun (r22 : (Bool × S_gatemake_Stream)) => if r22.1 then ((m_gatemake_Stream_Some r22.2 ([[97, 99, 99, 101, 112, 116, 45, 108, 97, 110, 103, 117, 97, 103, 101], [65, 99, 99, 101, 112, 116, 45, 76, 97, 110, 103, 117, 97, 103, 101, 44, 32, 120, 45, 111, 110, 101], [42], [], [120, 45, 111, 110, 101, 44, 88, 45, 79, 110, 101]])).bind fun (r25 : (Bs × S_gatemake_Stream)) => (m_gatemake_Stream_CacheResponse_1 [118, 97, 114, 121] r25.1 (S_api_Response.mk c20 l19 c21)).bind fun (r27 : (S_api_Response)) => gatemake_Stream_CacheResponse_J2 r25.2.L r25.2.at_ r27.Headers r27.Status r27.Body) else (gatemake_Stream_CacheResponse_J2 r22.2.L r22.2.at_ l19 c20 c21)
noncomputable def m_gatemake_Stream_CacheResponse (s1 : S_gatemake_Stream) : Option (S_api_Response × S_gatemake_Stream) :=
  (m_gatemake_Stream_Pick s1 [200, 200, 200, 200, 404, 304, 500, 204, 201]).bind fun (r2 : (Int × S_gatemake_Stream)) => (m_strings_Repeat [122] 50).bind fun (r4 : (Bs)) => (m_gatemake_Stream_Some r2.2 ([[104, 101, 108, 108, 111], [120], [], r4])).bind fun (r6 : (Bs × S_gatemake_Stream)) => (m_gatemake_Stream_Flip r6.2 6).bind fun (r8 : (Bool × S_gatemake_Stream)) => if !r8.1 then ((m_gatemake_Stream_Some r8.2 ([[99, 97, 99, 104, 101, 45, 99, 111, 110, 116, 114, 111, 108], [67, 97, 99, 104, 101, 45, 67, 111, 110, 116, 114, 111, 108]])).bind fun (r11 : (Bs × S_gatemake_Stream)) => (m_gatemake_Stream_ControlValue r11.2).bind fun (r13 : (Bs × S_gatemake_Stream)) => (m_gatemake_Stream_CacheResponse_1 r11.1 r13.1 (S_api_Response.mk r2.1 ([] : List S_api_Header) r6.1)).bind fun (r15 : (S_api_Response)) => gatemake_Stream_CacheResponse_J1 r13.2.L r13.2.at_ r15.Headers r15.Status r15.Body) else (gatemake_Stream_CacheResponse_J1 r8.2.L r8.2.at_ ([] : List S_api_Header) r2.1 r6.1)
noncomputable def cache_opaque_J3 (v33 : Bool) : Option (Unit ⊕ (Bs × Bool)) :=
  if v33 then (some (.inr ([], false))) else (some (.inl ()))
noncomputable def cache_opaque_L2 (k18 : Nat) (x21 : UInt8) : Option (Unit ⊕ (Bs × Bool)) :=
  if decide ((x21.toNat : Int) < 33) then (cache_opaque_J3 true) else (if decide (126 < (x21.toNat : Int)) then (cache_opaque_J3 true) else (if decide ((x21.toNat : Int) = 34) then (cache_opaque_J3 true) else (cache_opaque_J3 (decide ((x21.toNat : Int) = 44)))))
noncomputable def cache_opaque_E2 (l16 : Bs) : Option (Bs × Bool) :=
  some (l16, true)
noncomputable def cache_opaque_J1 (r2 : (Bs)) (v14 : Bool) : Option (Bs × Bool) :=
  if v14 then (some ([], false)) else ((sub? r2 1 (wr ((r2.length : Int) - 1))).bind fun (l16 : Bs) => if l16.length ≤ 1000000000 then forL (fun (k : Nat) (x : UInt8) (s : Unit) => cache_opaque_L2 k x) (fun (s : Unit) => cache_opaque_E2 l16) 0 l16 () else none)
noncomputable def m_cache_opaque (s1 : Bs) : Option (Bs × Bool) :=
  (m_strings_TrimPrefix s1 [87, 47]).bind fun (r2 : (Bs)) => if decide ((r2.length : Int) < 2) then (cache_opaque_J1 r2 true) else ((r2[0]?).bind fun (x6 : UInt8) => if decide ((x6.toNat : Int) ≠ 34) then (cache_opaque_J1 r2 true) else ((at? r2 (wr ((r2.length : Int) - 1))).bind fun (x10 : UInt8) => cache_opaque_J1 r2 (decide ((x10.toNat : Int) ≠ 34))))
noncomputable def strings_trimRightByte_J1 (s14 : Bs) : Option (Bs) :=
  some s14
noncomputable def strings_trimRightByte_J3 (s3 : Bs) (v10 : Bool) : Option (Bs ⊕ (Bs)) :=
  if v10 then ((sub? s3 0 (wr ((s3.length : Int) - 1))).bind fun (l12 : Bs) => some (.inl l12)) else (Option.map .inr (strings_trimRightByte_J1 s3))
noncomputable def strings_trimRightByte_L2 (c2 : Int) (s3 : Bs) : Option (Bs ⊕ (Bs)) :=
  if decide (0 < (s3.length : Int)) then ((at? s3 (wr ((s3.length : Int) - 1))).bind fun (x7 : UInt8) => strings_trimRightByte_J3 s3 (decide ((x7.toNat : Int) = c2))) else (strings_trimRightByte_J3 s3 false)
noncomputable def m_strings_trimRightByte (s1 : Bs) (c2 : Int) : Option (Bs) :=
  iter (fun (s : Bs) => strings_trimRightByte_L2 c2 s) s1
noncomputable def strings_trimLeftByte_J1 (s14 : Bs) : Option (Bs) :=
  some s14
noncomputable def strings_trimLeftByte_J3 (s3 : Bs) (v10 : Bool) : Option (Bs ⊕ (Bs)) :=
  if v10 then ((sub? s3 1 (s3.length : Int)).bind fun (l12 : Bs) => some (.inl l12)) else (Option.map .inr (strings_trimLeftByte_J1 s3))
noncomputable def strings_trimLeftByte_L2 (c2 : Int) (s3 : Bs) : Option (Bs ⊕ (Bs)) :=
  if decide (0 < (s3.length : Int)) then ((s3[0]?).bind fun (x7 : UInt8) => strings_trimLeftByte_J3 s3 (decide ((x7.toNat : Int) = c2))) else (strings_trimLeftByte_J3 s3 false)
noncomputable def m_strings_trimLeftByte (s1 : Bs) (c2 : Int) : Option (Bs) :=
  iter (fun (s : Bs) => strings_trimLeftByte_L2 c2 s) s1
noncomputable def strings_Trim_J1 (s1 : Bs) (cutset2 : Bs) (v9 : Bool) : Option (Bs) :=
  if v9 then ((cutset2[0]?).bind fun (x11 : UInt8) => (m_strings_trimRightByte s1 (x11.toNat : Int)).bind fun (r13 : (Bs)) => (m_strings_trimLeftByte r13 (x11.toNat : Int)).bind fun (r15 : (Bs)) => some r15) else none
noncomputable def m_strings_Trim (s1 : Bs) (cutset2 : Bs) : Option (Bs) :=
  if ((decide (s1 = [])) || (decide (cutset2 = []))) then some s1 else (if decide ((cutset2.length : Int) = 1) then ((cutset2[0]?).bind fun (x6 : UInt8) => strings_Trim_J1 s1 cutset2 (decide ((x6.toNat : Int) < 128))) else (strings_Trim_J1 s1 cutset2 false))
noncomputable def cache_Matches_L1 (r3 : (Bs × Bool)) (k10 : Nat) (x13 : Bs) (found9 : Bool) : Option (Bool ⊕ (Bool × Int)) :=
  (m_strings_Trim x13 [32]).bind fun (r16 : (Bs)) => (m_cache_opaque r16).bind fun (r18 : (Bs × Bool)) => if !r18.2 then (some (.inr (false, 9))) else (some (.inl (found9 || (decide (r18.1 = r3.1)))))
noncomputable def cache_Matches_E1 (found9 : Bool) : Option (Bool × Int) :=
  some (found9, 0)
noncomputable def m_cache_Matches (header1 : Bs) (tag2 : Bs) : Option (Bool × Int) :=
  (m_cache_opaque tag2).bind fun (r3 : (Bs × Bool)) => if !r3.2 then (some (false, 9)) else (if decide (header1 = [42]) then (some (true, 0)) else ((m_strings_Split header1 [44]).bind fun (r7 : ((List Bs))) => if r7.length ≤ 1000000000 then forL (fun (k : Nat) (x : Bs) (s : Bool) => cache_Matches_L1 r3 k x s) (fun (s : Bool) => cache_Matches_E1 s) 0 r7 false else none))
noncomputable def gateref2_visible_J2 (v12 : Bool) : Option (Unit ⊕ (Bool)) :=
  if v12 then (some (.inr false)) else (some (.inl ()))
noncomputable def gateref2_visible_L1 (low2 : Int) (k3 : Nat) (x6 : UInt8) : Option (Unit ⊕ (Bool)) :=
  if decide ((x6.toNat : Int) < low2) then (gateref2_visible_J2 true) else (gateref2_visible_J2 (decide (126 < (x6.toNat : Int))))
noncomputable def gateref2_visible_E1 : Option (Bool) :=
  some true
noncomputable def m_gateref2_visible (s1 : Bs) (low2 : Int) : Option (Bool) :=
  if s1.length ≤ 1000000000 then forL (fun (k : Nat) (x : UInt8) (s : Unit) => gateref2_visible_L1 low2 k x) (fun (s : Unit) => gateref2_visible_E1) 0 s1 () else none
noncomputable def gateref2_tagOf_J1 (r2 : (Bs)) (v26 : Bool) : Option (Bs × Bool) :=
  some (r2, v26)
noncomputable def m_gateref2_tagOf (s1 : Bs) : Option (Bs × Bool) :=
  (m_strings_TrimPrefix s1 [87, 47]).bind fun (r2 : (Bs)) => if decide (2 ≤ (r2.length : Int)) then ((r2[0]?).bind fun (x6 : UInt8) => if decide ((x6.toNat : Int) = 34) then ((at? r2 (wr ((r2.length : Int) - 1))).bind fun (x10 : UInt8) => if decide ((x10.toNat : Int) = 34) then ((m_gateref2_visible r2 33).bind fun (r14 : (Bool)) => if r14 then ((sub? r2 1 (wr ((r2.length : Int) - 1))).bind fun (l18 : Bs) => (m_strings_ContainsAny l18 [34, 44]).bind fun (r20 : (Bool)) => gateref2_tagOf_J1 r2 (!r20)) else (gateref2_tagOf_J1 r2 false)) else (gateref2_tagOf_J1 r2 false)) else (gateref2_tagOf_J1 r2 false)) else (gateref2_tagOf_J1 r2 false)
noncomputable def slices_Index_L_string_string__L1 (v2 : Bs) (k3 : Nat) (x6 : Bs) : Option (Unit ⊕ (Int)) :=
  if decide (v2 = x6) then (some (.inr (k3 : Int))) else (some (.inl ()))
noncomputable def slices_Index_L_string_string__E1 : Option (Int) :=
  some (-1)
noncomputable def m_slices_Index_L_string_string_ (s1 : (List Bs)) (v2 : Bs) : Option (Int) :=
  if s1.length ≤ 1000000000 then forL (fun (k : Nat) (x : Bs) (s : Unit) => slices_Index_L_string_string__L1 v2 k x) (fun (s : Unit) => slices_Index_L_string_string__E1) 0 s1 () else none
noncomputable def m_slices_Contains_L_string_string_ (s1 : (List Bs)) (v2 : Bs) : Option (Bool) :=
  (m_slices_Index_L_string_string_ s1 v2).bind fun (r3 : (Int)) => some (decide (0 ≤ r3))
noncomputable def gateref2_MatchesOf_L2 (k10 : Nat) (x13 : Bs) (ok8 : Bool) (l9 : (List Bs)) : Option ((Bool × (List Bs)) ⊕ (Bool × Int)) :=
  (m_strings_Trim x13 [32]).bind fun (r16 : (Bs)) => (m_gateref2_tagOf r16).bind fun (r18 : (Bs × Bool)) => if l9.length + 1 ≤ 1000000000 then (some (.inl ((ok8 && r18.2), (l9 ++ [r18.1])))) else none
noncomputable def gateref2_MatchesOf_J3 (v29 : Bool) : Option (Bool × Int) :=
  some (v29, 0)
noncomputable def gateref2_MatchesOf_J1 (header1 : Bs) (r3 : (Bs × Bool)) (ok21 : Bool) (l22 : (List Bs)) : Option (Bool × Int) :=
  if !ok21 then (some (false, 9)) else (if decide (header1 = [42]) then (gateref2_MatchesOf_J3 true) else ((m_slices_Contains_L_string_string_ l22 r3.1).bind fun (r26 : (Bool)) => gateref2_MatchesOf_J3 r26))
noncomputable def gateref2_MatchesOf_E2 (header1 : Bs) (r3 : (Bs × Bool)) (ok8 : Bool) (l9 : (List Bs)) : Option (Bool × Int) :=
  gateref2_MatchesOf_J1 header1 r3 ok8 l9
noncomputable def m_gateref2_MatchesOf (header1 : Bs) (tag2 : Bs) : Option (Bool × Int) :=
  (m_gateref2_tagOf tag2).bind fun (r3 : (Bs × Bool)) => if decide (header1 ≠ [42]) then ((m_strings_Split header1 [44]).bind fun (r6 : ((List Bs))) => if r6.length ≤ 1000000000 then forL (fun (k : Nat) (x : Bs) (s : Bool × (List Bs)) => gateref2_MatchesOf_L2 k x s.1 s.2) (fun (s : Bool × (List Bs)) => gateref2_MatchesOf_E2 header1 r3 s.1 s.2) 0 r6 (r3.2, []) else none) else (gateref2_MatchesOf_J1 header1 r3 r3.2 [])
noncomputable def m_kit_IsMoment (n1 : Int) : Option (Bool) :=
  some ((decide (0 ≤ n1)) && (decide (n1 < 345686400000)))
noncomputable def m_message_isLetter (c1 : Int) : Option (Bool) :=
  some (((decide (97 ≤ c1)) && (decide (c1 ≤ 122))) || ((decide (65 ≤ c1)) && (decide (c1 ≤ 90))))
noncomputable def m_message_isDigit (c1 : Int) : Option (Bool) :=
  some ((decide (48 ≤ c1)) && (decide (c1 ≤ 57)))
noncomputable def message_isTokenByte_J1 (v14 : Bool) : Option (Bool) :=
  some v14
noncomputable def m_message_isTokenByte (c1 : Int) : Option (Bool) :=
  (m_message_isLetter c1).bind fun (r2 : (Bool)) => if r2 then (message_isTokenByte_J1 true) else ((m_message_isDigit c1).bind fun (r6 : (Bool)) => if r6 then (message_isTokenByte_J1 true) else ((m_strings_IndexByte [33, 35, 36, 37, 38, 39, 42, 43, 45, 46, 94, 95, 96, 124, 126] c1).bind fun (r10 : (Int)) => message_isTokenByte_J1 (decide (0 ≤ r10))))
noncomputable def message_IsToken_L1 (k2 : Nat) (x5 : UInt8) : Option (Unit ⊕ (Bool)) :=
  (m_message_isTokenByte (x5.toNat : Int)).bind fun (r8 : (Bool)) => if !r8 then (some (.inr false)) else (some (.inl ()))
noncomputable def message_IsToken_E1 (s1 : Bs) : Option (Bool) :=
  some ((decide (s1 ≠ [])) && (decide ((s1.length : Int) ≤ 100)))
noncomputable def m_message_IsToken (s1 : Bs) : Option (Bool) :=
  if s1.length ≤ 1000000000 then forL (fun (k : Nat) (x : UInt8) (s : Unit) => message_IsToken_L1 k x) (fun (s : Unit) => message_IsToken_E1 s1) 0 s1 () else none
noncomputable def m_internal_strconv_lower (c1 : Int) : Option (Int) :=
  some (or_ .u8 c1 32)
noncomputable def internal_strconv_underscoreOK_J7 (v47 : Int) (v85 : Int) : Option ((Int × Int) ⊕ (Bool)) :=
  some (.inl (v85, wr (v47 + 1)))
noncomputable def internal_strconv_underscoreOK_J8 (v14 : Bs) (v46 : Int) (v47 : Int) (v78 : Bool) : Option ((Int × Int) ⊕ (Bool)) :=
  if v78 then (internal_strconv_underscoreOK_J7 v47 48) else ((at? v14 v47).bind fun (x80 : UInt8) => if decide ((x80.toNat : Int) = 95) then (if decide (v46 ≠ 48) then (some (.inr false)) else (internal_strconv_underscoreOK_J7 v47 95)) else (if decide (v46 = 95) then (some (.inr false)) else (internal_strconv_underscoreOK_J7 v47 33)))
noncomputable def internal_strconv_underscoreOK_J5 (v86 : Int) : Option (Bool) :=
  some (decide (v86 ≠ 95))
noncomputable def internal_strconv_underscoreOK_L6 (v14 : Bs) (v45 : Bool) (v46 : Int) (v47 : Int) : Option ((Int × Int) ⊕ (Bool)) :=
  if decide (v47 < (v14.length : Int)) then ((at? v14 v47).bind fun (x50 : UInt8) => if decide (48 ≤ (x50.toNat : Int)) then (if decide ((x50.toNat : Int) ≤ 57) then (internal_strconv_underscoreOK_J8 v14 v46 v47 true) else (if v45 then ((m_internal_strconv_lower (x50.toNat : Int)).bind fun (r58 : (Int)) => if decide (97 ≤ r58) then ((m_internal_strconv_lower (x50.toNat : Int)).bind fun (r62 : (Int)) => internal_strconv_underscoreOK_J8 v14 v46 v47 (decide (r62 ≤ 102))) else (internal_strconv_underscoreOK_J8 v14 v46 v47 false)) else (internal_strconv_underscoreOK_J8 v14 v46 v47 false))) else (if v45 then ((m_internal_strconv_lower (x50.toNat : Int)).bind fun (r70 : (Int)) => if decide (97 ≤ r70) then ((m_internal_strconv_lower (x50.toNat : Int)).bind fun (r74 : (Int)) => internal_strconv_underscoreOK_J8 v14 v46 v47 (decide (r74 ≤ 102))) else (internal_strconv_underscoreOK_J8 v14 v46 v47 false)) else (internal_strconv_underscoreOK_J8 v14 v46 v47 false))) else (Option.map .inr (internal_strconv_underscoreOK_J5 v46))
noncomputable def internal_strconv_underscoreOK_J3 (v14 : Bs) (v43 : Int) (v44 : Int) (v45 : Bool) : Option (Bool) :=
  iter (fun (s : Int × Int) => internal_strconv_underscoreOK_L6 v14 v45 s.1 s.2) (v43, v44)
noncomputable def internal_strconv_underscoreOK_J4 (v14 : Bs) (v37 : Bool) : Option (Bool) :=
  if v37 then ((v14[1]?).bind fun (x39 : UInt8) => (m_internal_strconv_lower (x39.toNat : Int)).bind fun (r41 : (Int)) => internal_strconv_underscoreOK_J3 v14 48 2 (decide (r41 = 120))) else (internal_strconv_underscoreOK_J3 v14 94 0 false)
noncomputable def internal_strconv_underscoreOK_J1 (v14 : Bs) : Option (Bool) :=
  if decide (2 ≤ (v14.length : Int)) then ((v14[0]?).bind fun (x17 : UInt8) => if decide ((x17.toNat : Int) = 48) then ((v14[1]?).bind fun (x21 : UInt8) => (m_internal_strconv_lower (x21.toNat : Int)).bind fun (r23 : (Int)) => if decide (r23 = 98) then (internal_strconv_underscoreOK_J4 v14 true) else ((m_internal_strconv_lower (x21.toNat : Int)).bind fun (r27 : (Int)) => if decide (r27 = 111) then (internal_strconv_underscoreOK_J4 v14 true) else ((m_internal_strconv_lower (x21.toNat : Int)).bind fun (r31 : (Int)) => internal_strconv_underscoreOK_J4 v14 (decide (r31 = 120))))) else (internal_strconv_underscoreOK_J4 v14 false)) else (internal_strconv_underscoreOK_J4 v14 false)
noncomputable def internal_strconv_underscoreOK_J2 (v1 : Bs) (v10 : Bool) : Option (Bool) :=
  if v10 then ((sub? v1 1 (v1.length : Int)).bind fun (l12 : Bs) => internal_strconv_underscoreOK_J1 l12) else (internal_strconv_underscoreOK_J1 v1)
noncomputable def m_internal_strconv_underscoreOK (v1 : Bs) : Option (Bool) :=
  if decide (1 ≤ (v1.length : Int)) then ((v1[0]?).bind fun (x4 : UInt8) => if decide ((x4.toNat : Int) = 45) then (internal_strconv_underscoreOK_J2 v1 true) else (internal_strconv_underscoreOK_J2 v1 (decide ((x4.toNat : Int) = 43)))) else (internal_strconv_underscoreOK_J2 v1 false)
noncomputable def internal_strconv_ParseUint_J9 (v87 : Bool) (v88 : Int) : Option ((Bool × Int) ⊕ (Int × Int)) :=
  some (.inl (v87, v88))
noncomputable def internal_strconv_ParseUint_J10 (v46 : Int) (v49 : Int) (v53 : Int) (v55 : Bool) (v56 : Int) (v83 : Int) : Option ((Bool × Int) ⊕ (Int × Int)) :=
  if decide ((IntKind.wrap .u8 v46) ≤ v83) then (some (.inr (0, 2))) else (if decide (v53 ≤ v56) then (some (.inr (IntKind.wrap .u64 ((shl_ .u64 1 (IntKind.wrap .u64 v49)) - 1), 1))) else (if ((decide ((IntKind.wrap .u64 ((IntKind.wrap .u64 (v56 * (IntKind.wrap .u64 v46))) + (IntKind.wrap .u64 v83))) < (IntKind.wrap .u64 (v56 * (IntKind.wrap .u64 v46))))) || (decide ((IntKind.wrap .u64 ((shl_ .u64 1 (IntKind.wrap .u64 v49)) - 1)) < (IntKind.wrap .u64 ((IntKind.wrap .u64 (v56 * (IntKind.wrap .u64 v46))) + (IntKind.wrap .u64 v83)))))) then (some (.inr (IntKind.wrap .u64 ((shl_ .u64 1 (IntKind.wrap .u64 v49)) - 1), 1))) else (internal_strconv_ParseUint_J9 v55 (IntKind.wrap .u64 ((IntKind.wrap .u64 (v56 * (IntKind.wrap .u64 v46))) + (IntKind.wrap .u64 v83))))))
noncomputable def internal_strconv_ParseUint_J11 (v46 : Int) (v49 : Int) (v53 : Int) (v55 : Bool) (v56 : Int) (x60 : Int) (v79 : Bool) : Option ((Bool × Int) ⊕ (Int × Int)) :=
  if v79 then ((m_internal_strconv_lower x60).bind fun (r81 : (Int)) => internal_strconv_ParseUint_J10 v46 v49 v53 v55 v56 (IntKind.wrap .u8 ((IntKind.wrap .u8 (r81 - 97)) + 10))) else (some (.inr (0, 2)))
noncomputable def internal_strconv_ParseUint_L7 (v2 : Int) (v46 : Int) (v49 : Int) (v53 : Int) (k57 : Nat) (x60 : Int) (v55 : Bool) (v56 : Int) : Option ((Bool × Int) ⊕ (Int × Int)) :=
  if ((decide (x60 = 95)) && (decide (v2 = 0))) then (internal_strconv_ParseUint_J9 true v56) else (if ((decide (48 ≤ x60)) && (decide (x60 ≤ 57))) then (internal_strconv_ParseUint_J10 v46 v49 v53 v55 v56 (IntKind.wrap .u8 (x60 - 48))) else ((m_internal_strconv_lower x60).bind fun (r72 : (Int)) => if decide (97 ≤ r72) then ((m_internal_strconv_lower x60).bind fun (r76 : (Int)) => internal_strconv_ParseUint_J11 v46 v49 v53 v55 v56 x60 (decide (r76 ≤ 122))) else (internal_strconv_ParseUint_J11 v46 v49 v53 v55 v56 x60 false)))
noncomputable def internal_strconv_ParseUint_J8 (v56 : Int) (v66 : Bool) : Option (Int × Int) :=
  if v66 then (some (0, 2)) else (some (v56, 0))
noncomputable def internal_strconv_ParseUint_E7 (v1 : Bs) (v55 : Bool) (v56 : Int) : Option (Int × Int) :=
  if v55 then ((m_internal_strconv_underscoreOK v1).bind fun (r63 : (Bool)) => internal_strconv_ParseUint_J8 v56 (!r63)) else (internal_strconv_ParseUint_J8 v56 false)
noncomputable def internal_strconv_ParseUint_J6 (v1 : Bs) (v2 : Int) (v45 : Bs) (v46 : Int) (v49 : Int) (v53 : Int) : Option (Int × Int) :=
  if (0 : Int) ≤ (IntKind.wrap .u64 v49) then (if (numsB v45).length ≤ 1000000000 then forL (fun (k : Nat) (x : Int) (s : Bool × Int) => internal_strconv_ParseUint_L7 v2 v46 v49 v53 k x s.1 s.2) (fun (s : Bool × Int) => internal_strconv_ParseUint_E7 v1 s.1 s.2) 0 (numsB v45) (false, 0) else none) else none
noncomputable def internal_strconv_ParseUint_J5 (v1 : Bs) (v2 : Int) (v45 : Bs) (v46 : Int) (v49 : Int) : Option (Int × Int) :=
  if decide (v46 = 10) then (internal_strconv_ParseUint_J6 v1 v2 v45 v46 v49 1844674407370955162) else (if decide (v46 = 16) then (internal_strconv_ParseUint_J6 v1 v2 v45 v46 v49 1152921504606846976) else (if (IntKind.wrap .u64 v46) ≠ 0 then (internal_strconv_ParseUint_J6 v1 v2 v45 v46 v49 (IntKind.wrap .u64 ((IntKind.wrap .u64 (Int.tdiv 18446744073709551615 (IntKind.wrap .u64 v46))) + 1))) else none))
noncomputable def internal_strconv_ParseUint_J1 (v1 : Bs) (v2 : Int) (v3 : Int) (v45 : Bs) (v46 : Int) : Option (Int × Int) :=
  if decide (v3 = 0) then (internal_strconv_ParseUint_J5 v1 v2 v45 v46 64) else (if ((decide (v3 < 0)) || (decide (64 < v3))) then (some (0, 4)) else (internal_strconv_ParseUint_J5 v1 v2 v45 v46 v3))
noncomputable def internal_strconv_ParseUint_J4 (v1 : Bs) (v2 : Int) (v3 : Int) (v39 : Bool) : Option (Int × Int) :=
  if v39 then ((sub? v1 2 (v1.length : Int)).bind fun (l41 : Bs) => internal_strconv_ParseUint_J1 v1 v2 v3 l41 16) else ((sub? v1 1 (v1.length : Int)).bind fun (l43 : Bs) => internal_strconv_ParseUint_J1 v1 v2 v3 l43 8)
noncomputable def internal_strconv_ParseUint_J3 (v1 : Bs) (v2 : Int) (v3 : Int) (v28 : Bool) : Option (Int × Int) :=
  if v28 then ((sub? v1 2 (v1.length : Int)).bind fun (l30 : Bs) => internal_strconv_ParseUint_J1 v1 v2 v3 l30 8) else (if decide (3 ≤ (v1.length : Int)) then ((v1[1]?).bind fun (x34 : UInt8) => (m_internal_strconv_lower (x34.toNat : Int)).bind fun (r36 : (Int)) => internal_strconv_ParseUint_J4 v1 v2 v3 (decide (r36 = 120))) else (internal_strconv_ParseUint_J4 v1 v2 v3 false))
noncomputable def internal_strconv_ParseUint_J2 (v1 : Bs) (v2 : Int) (v3 : Int) (v17 : Bool) : Option (Int × Int) :=
  if v17 then ((sub? v1 2 (v1.length : Int)).bind fun (l19 : Bs) => internal_strconv_ParseUint_J1 v1 v2 v3 l19 2) else (if decide (3 ≤ (v1.length : Int)) then ((v1[1]?).bind fun (x23 : UInt8) => (m_internal_strconv_lower (x23.toNat : Int)).bind fun (r25 : (Int)) => internal_strconv_ParseUint_J3 v1 v2 v3 (decide (r25 = 111))) else (internal_strconv_ParseUint_J3 v1 v2 v3 false))
noncomputable def m_internal_strconv_ParseUint (v1 : Bs) (v2 : Int) (v3 : Int) : Option (Int × Int) :=
  if decide (v1 = []) then (some (0, 2)) else (if ((decide (2 ≤ v2)) && (decide (v2 ≤ 36))) then (internal_strconv_ParseUint_J1 v1 v2 v3 v1 v2) else (if decide (v2 = 0) then ((v1[0]?).bind fun (x7 : UInt8) => if decide ((x7.toNat : Int) = 48) then (if decide (3 ≤ (v1.length : Int)) then ((v1[1]?).bind fun (x12 : UInt8) => (m_internal_strconv_lower (x12.toNat : Int)).bind fun (r14 : (Int)) => internal_strconv_ParseUint_J2 v1 v2 v3 (decide (r14 = 98))) else (internal_strconv_ParseUint_J2 v1 v2 v3 false)) else (internal_strconv_ParseUint_J1 v1 v2 v3 v1 10)) else (some (0, 3))))
noncomputable def internal_strconv_ParseInt_J4 (v31 : Int) : Option (Int × Int) :=
  some (v31, 0)
noncomputable def internal_strconv_ParseInt_J3 (v14 : Bool) (r15 : (Int × Int)) (v24 : Int) : Option (Int × Int) :=
  if (0 : Int) ≤ (IntKind.wrap .u64 (wr (v24 - 1))) then (if ((!v14) && (decide ((shl_ .u64 1 (IntKind.wrap .u64 (wr (v24 - 1)))) ≤ r15.1))) then (some (IntKind.wrap .i64 (IntKind.wrap .u64 ((shl_ .u64 1 (IntKind.wrap .u64 (wr (v24 - 1)))) - 1)), 1)) else (if (v14 && (decide ((shl_ .u64 1 (IntKind.wrap .u64 (wr (v24 - 1)))) < r15.1))) then (if -9223372036854775807 ≤ IntKind.wrap .i64 (shl_ .u64 1 (IntKind.wrap .u64 (wr (v24 - 1)))) ∧ IntKind.wrap .i64 (shl_ .u64 1 (IntKind.wrap .u64 (wr (v24 - 1)))) ≤ 9223372036854775807 then (some ((-(IntKind.wrap .i64 (shl_ .u64 1 (IntKind.wrap .u64 (wr (v24 - 1)))))), 1)) else none) else (if v14 then (if -9223372036854775807 ≤ IntKind.wrap .i64 r15.1 ∧ IntKind.wrap .i64 r15.1 ≤ 9223372036854775807 then (internal_strconv_ParseInt_J4 (-(IntKind.wrap .i64 r15.1))) else none) else (internal_strconv_ParseInt_J4 (IntKind.wrap .i64 r15.1))))) else none
noncomputable def internal_strconv_ParseInt_J2 (v3 : Int) (v14 : Bool) (r15 : (Int × Int)) (v21 : Bool) : Option (Int × Int) :=
  if v21 then (some (0, r15.2)) else (if decide (v3 = 0) then (internal_strconv_ParseInt_J3 v14 r15 64) else (internal_strconv_ParseInt_J3 v14 r15 v3))
noncomputable def internal_strconv_ParseInt_J1 (v2 : Int) (v3 : Int) (v13 : Bs) (v14 : Bool) : Option (Int × Int) :=
  (m_internal_strconv_ParseUint v13 v2 v3).bind fun (r15 : (Int × Int)) => if decide (r15.2 ≠ 0) then (if (0 : Int) ≤ r15.2 ∧ r15.2 ≤ (4 : Int) then (internal_strconv_ParseInt_J2 v3 v14 r15 (decide (r15.2 ≠ 1))) else none) else (internal_strconv_ParseInt_J2 v3 v14 r15 false)
noncomputable def m_internal_strconv_ParseInt (v1 : Bs) (v2 : Int) (v3 : Int) : Option (Int × Int) :=
  if decide (v1 = []) then (some (0, 2)) else ((v1[0]?).bind fun (x5 : UInt8) => if decide ((x5.toNat : Int) = 43) then ((sub? v1 1 (v1.length : Int)).bind fun (l8 : Bs) => internal_strconv_ParseInt_J1 v2 v3 l8 false) else (if decide ((x5.toNat : Int) = 45) then ((sub? v1 1 (v1.length : Int)).bind fun (l11 : Bs) => internal_strconv_ParseInt_J1 v2 v3 l11 true) else (internal_strconv_ParseInt_J1 v2 v3 v1 false)))
noncomputable def internal_strconv_Atoi_L3 (k15 : Nat) (x18 : Int) (v14 : Int) : Option (Int ⊕ (Int × Int)) :=
  if decide (9 < (IntKind.wrap .u8 (x18 - 48))) then (some (.inr (0, 2))) else (some (.inl (wr ((wr (v14 * 10)) + (IntKind.wrap .i64 (IntKind.wrap .u8 (x18 - 48)))))))
noncomputable def internal_strconv_Atoi_J4 (v23 : Int) : Option (Int × Int) :=
  some (v23, 0)
noncomputable def internal_strconv_Atoi_E3 (v1 : Bs) (v14 : Int) : Option (Int × Int) :=
  (v1[0]?).bind fun (x19 : UInt8) => if decide ((x19.toNat : Int) = 45) then (if -9223372036854775807 ≤ v14 ∧ v14 ≤ 9223372036854775807 then (internal_strconv_Atoi_J4 (-v14)) else none) else (internal_strconv_Atoi_J4 v14)
noncomputable def internal_strconv_Atoi_J1 (v1 : Bs) (v13 : Bs) : Option (Int × Int) :=
  if (numsB v13).length ≤ 1000000000 then forL (fun (k : Nat) (x : Int) (s : Int) => internal_strconv_Atoi_L3 k x s) (fun (s : Int) => internal_strconv_Atoi_E3 v1 s) 0 (numsB v13) 0 else none
noncomputable def internal_strconv_Atoi_J2 (v1 : Bs) (v8 : Bool) : Option (Int × Int) :=
  if v8 then ((sub? v1 1 (v1.length : Int)).bind fun (l10 : Bs) => if decide ((l10.length : Int) < 1) then (some (0, 2)) else (internal_strconv_Atoi_J1 v1 l10)) else (internal_strconv_Atoi_J1 v1 v1)
noncomputable def m_internal_strconv_Atoi (v1 : Bs) : Option (Int × Int) :=
  if ((false && ((decide (0 < (v1.length : Int))) && (decide ((v1.length : Int) < 10)))) || (true && ((decide (0 < (v1.length : Int))) && (decide ((v1.length : Int) < 19))))) then ((v1[0]?).bind fun (x3 : UInt8) => if decide ((x3.toNat : Int) = 45) then (internal_strconv_Atoi_J2 v1 true) else (internal_strconv_Atoi_J2 v1 (decide ((x3.toNat : Int) = 43)))) else ((m_internal_strconv_ParseInt v1 10 0).bind fun (r27 : (Int × Int)) => some (r27.1, r27.2))
noncomputable def m_strconv_Atoi (s1 : Bs) : Option (Int × Int) :=
  (m_internal_strconv_Atoi s1).bind fun (r2 : (Int × Int)) => if decide (r2.2 ≠ 0) then ((m_strconv_toError [65, 116, 111, 105] s1 0 0 r2.2).bind fun (r5 : (Int)) => some (r2.1, r5)) else (some (r2.1, 0))
noncomputable def kit_Number_J3 (v29 : Bool) : Option (Unit ⊕ (Int × Bool)) :=
  if v29 then (some (.inr (0, false))) else (some (.inl ()))
noncomputable def kit_Number_L2 (i18 : Nat) (x21 : UInt8) : Option (Unit ⊕ (Int × Bool)) :=
  if decide ((x21.toNat : Int) < 48) then (kit_Number_J3 true) else (kit_Number_J3 (decide (57 < (x21.toNat : Int))))
noncomputable def kit_Number_E2 (s1 : Bs) : Option (Int × Bool) :=
  (m_strconv_Atoi s1).bind fun (r22 : (Int × Int)) => some (r22.1, decide (r22.2 = 0))
noncomputable def kit_Number_J1 (s1 : Bs) (r3 : (Bs)) (v16 : Bool) : Option (Int × Bool) :=
  if v16 then (some (0, false)) else (if r3.length ≤ 1000000000 then forL (fun (k : Nat) (x : UInt8) (s : Unit) => kit_Number_L2 k x) (fun (s : Unit) => kit_Number_E2 s1) 0 r3 () else none)
noncomputable def m_kit_Number (s1 : Bs) (most2 : Int) : Option (Int × Bool) :=
  (m_strings_TrimPrefix s1 [45]).bind fun (r3 : (Bs)) => if decide (r3 = []) then (kit_Number_J1 s1 r3 true) else (if decide (most2 < (r3.length : Int)) then (kit_Number_J1 s1 r3 true) else ((r3[0]?).bind fun (x9 : UInt8) => if decide ((x9.toNat : Int) = 48) then (kit_Number_J1 s1 r3 (decide (s1 ≠ [48]))) else (kit_Number_J1 s1 r3 false)))
noncomputable def m_kit_Small (s1 : Bs) : Option (Int × Bool) :=
  (m_kit_Number s1 9).bind fun (r2 : (Int × Bool)) => some (r2.1, r2.2)
noncomputable def m_kit_Outside (n1 : Int) (low2 : Int) (high3 : Int) : Option (Bool) :=
  some ((decide (n1 < low2)) || (decide (high3 < n1)))
noncomputable def message_isLabel_J2 (v19 : Bool) : Option (Bool) :=
  some v19
noncomputable def message_isLabel_J3 (v32 : Bool) : Option (Unit ⊕ (Bool)) :=
  if v32 then (some (.inr false)) else (some (.inl ()))
noncomputable def message_isLabel_L1 (k2 : Nat) (x5 : UInt8) : Option (Unit ⊕ (Bool)) :=
  (m_message_isLetter (x5.toNat : Int)).bind fun (r22 : (Bool)) => if !r22 then ((m_message_isDigit (x5.toNat : Int)).bind fun (r26 : (Bool)) => if !r26 then (message_isLabel_J3 (decide ((x5.toNat : Int) ≠ 45))) else (message_isLabel_J3 false)) else (message_isLabel_J3 false)
noncomputable def message_isLabel_E1 (s1 : Bs) : Option (Bool) :=
  if decide (s1 ≠ []) then (if decide ((s1.length : Int) ≤ 63) then ((s1[0]?).bind fun (x10 : UInt8) => if decide ((x10.toNat : Int) ≠ 45) then ((at? s1 (wr ((s1.length : Int) - 1))).bind fun (x14 : UInt8) => message_isLabel_J2 (decide ((x14.toNat : Int) ≠ 45))) else (message_isLabel_J2 false)) else (message_isLabel_J2 false)) else (message_isLabel_J2 false)
noncomputable def m_message_isLabel (s1 : Bs) : Option (Bool) :=
  if s1.length ≤ 1000000000 then forL (fun (k : Nat) (x : UInt8) (s : Unit) => message_isLabel_L1 k x) (fun (s : Unit) => message_isLabel_E1 s1) 0 s1 () else none
noncomputable def message_isHost_J2 (v23 : Bool) : Option (Bool) :=
  some v23
noncomputable def message_isHost_L1 (k6 : Nat) (x9 : Bs) : Option (Unit ⊕ (Bool)) :=
  (m_message_isLabel x9).bind fun (r26 : (Bool)) => if !r26 then (some (.inr false)) else (some (.inl ()))
noncomputable def message_isHost_E1 (s1 : Bs) (r2 : (Bs × Bs × Bool)) : Option (Bool) :=
  (m_kit_Small r2.2.1).bind fun (r10 : (Int × Bool)) => if decide ((s1.length : Int) ≤ 255) then (if !r2.2.2 then (message_isHost_J2 true) else (if r10.2 then ((m_kit_Outside r10.1 1 65535).bind fun (r18 : (Bool)) => message_isHost_J2 (!r18)) else (message_isHost_J2 false))) else (message_isHost_J2 false)
noncomputable def m_message_isHost (s1 : Bs) : Option (Bool) :=
  (m_strings_Cut s1 [58]).bind fun (r2 : (Bs × Bs × Bool)) => (m_strings_Split r2.1 [46]).bind fun (r4 : ((List Bs))) => if r4.length ≤ 1000000000 then forL (fun (k : Nat) (x : Bs) (s : Unit) => message_isHost_L1 k x) (fun (s : Unit) => message_isHost_E1 s1 r2) 0 r4 () else none
noncomputable def message_isRange_J2 (v13 : Bool) : Option (Unit ⊕ (Bool)) :=
  if v13 then (some (.inr false)) else (some (.inl ()))
noncomputable def message_isRange_L1 (low2 : Int) (high3 : Int) (k4 : Nat) (x7 : UInt8) : Option (Unit ⊕ (Bool)) :=
  if decide ((x7.toNat : Int) < low2) then (message_isRange_J2 true) else (message_isRange_J2 (decide (high3 < (x7.toNat : Int))))
noncomputable def message_isRange_E1 : Option (Bool) :=
  some true
noncomputable def m_message_isRange (s1 : Bs) (low2 : Int) (high3 : Int) : Option (Bool) :=
  if s1.length ≤ 1000000000 then forL (fun (k : Nat) (x : UInt8) (s : Unit) => message_isRange_L1 low2 high3 k x) (fun (s : Unit) => message_isRange_E1) 0 s1 () else none
noncomputable def message_PathFault_J1 (v17 : Bool) : Option (Int) :=
  if v17 then some 3 else some 0
noncomputable def m_message_PathFault (s1 : Bs) : Option (Int) :=
  if decide (1000 < (s1.length : Int)) then (message_PathFault_J1 true) else ((m_strings_HasPrefix s1 [47]).bind fun (r4 : (Bool)) => if !r4 then (message_PathFault_J1 true) else ((m_message_isRange s1 33 126).bind fun (r8 : (Bool)) => if !r8 then (message_PathFault_J1 true) else ((m_strings_ContainsAny s1 [63, 35]).bind fun (r12 : (Bool)) => message_PathFault_J1 r12)))
noncomputable def message_queryFault_J1 (v12 : Bool) : Option (Int) :=
  if v12 then some 3 else some 0
noncomputable def m_message_queryFault (s1 : Bs) : Option (Int) :=
  if decide (1000 < (s1.length : Int)) then (message_queryFault_J1 true) else ((m_message_isRange s1 33 126).bind fun (r4 : (Bool)) => if !r4 then (message_queryFault_J1 true) else ((m_strings_Contains s1 [35]).bind fun (r8 : (Bool)) => message_queryFault_J1 r8))
noncomputable def message_IsField_J1 (v12 : Bool) : Option (Bool) :=
  some v12
noncomputable def m_message_IsField (s1 : Bs) : Option (Bool) :=
  if decide ((s1.length : Int) ≤ 2000) then ((m_message_isRange s1 32 126).bind fun (r4 : (Bool)) => if r4 then ((m_strings_Trim s1 [32]).bind fun (r8 : (Bs)) => message_IsField_J1 (decide (r8 = s1))) else (message_IsField_J1 false)) else (message_IsField_J1 false)
noncomputable def message_CheckHeaders_L1 (k3 : Nat) (x6 : S_api_Header) : Option (Unit ⊕ (Int)) :=
  (m_message_IsToken x6.Name).bind fun (r9 : (Bool)) => if !r9 then (some (.inr 5)) else ((m_message_IsField x6.Value).bind fun (r12 : (Bool)) => if !r12 then (some (.inr 3)) else (some (.inl ())))
noncomputable def message_CheckHeaders_E1 : Option (Int) :=
  some 0
noncomputable def m_message_CheckHeaders (l1 : (List S_api_Header)) : Option (Int) :=
  if decide (50 < (l1.length : Int)) then some 2 else (if l1.length ≤ 1000000000 then forL (fun (k : Nat) (x : S_api_Header) (s : Unit) => message_CheckHeaders_L1 k x) (fun (s : Unit) => message_CheckHeaders_E1) 0 l1 () else none)
noncomputable def message_CheckRequest_J1 (r1 : S_api_Request) (v25 : Bool) : Option (Int) :=
  if v25 then some 3 else ((m_message_CheckHeaders r1.Headers).bind fun (r27 : (Int)) => if decide (r27 ≠ 0) then some r27 else (if decide (20000 < (r1.Body.length : Int)) then some 2 else some 0))
noncomputable def m_message_CheckRequest (r1 : S_api_Request) : Option (Int) :=
  (m_kit_IsMoment r1.At).bind fun (r2 : (Bool)) => if !r2 then some 1 else ((m_message_IsToken r1.Method).bind fun (r5 : (Bool)) => if !r5 then some 5 else ((m_message_isHost r1.Host).bind fun (r8 : (Bool)) => if !r8 then (message_CheckRequest_J1 r1 true) else ((m_message_PathFault r1.Path).bind fun (r12 : (Int)) => if decide (r12 ≠ 0) then (message_CheckRequest_J1 r1 true) else ((m_message_queryFault r1.Query).bind fun (r16 : (Int)) => if decide (r16 ≠ 0) then (message_CheckRequest_J1 r1 true) else ((m_message_IsField r1.From).bind fun (r20 : (Bool)) => message_CheckRequest_J1 r1 (!r20))))))
noncomputable def m_message_CheckResponse (a1 : S_api_Response) : Option (Int) :=
  (m_kit_Outside a1.Status 100 599).bind fun (r2 : (Bool)) => if r2 then some 1 else ((m_message_CheckHeaders a1.Headers).bind fun (r5 : (Int)) => if decide (r5 ≠ 0) then some r5 else (if decide (20000 < (a1.Body.length : Int)) then some 2 else some 0))
noncomputable def m_message_isNamed (h1 : S_api_Header) (name2 : Bs) : Option (Bool) :=
  (m_strings_EqualFold h1.Name name2).bind fun (r3 : (Bool)) => some r3
noncomputable def message_Values_J2 (out14 : (List Bs)) : Option ((List Bs) ⊕ ((List Bs))) :=
  some (.inl out14)
noncomputable def message_Values_L1 (name2 : Bs) (k4 : Nat) (x7 : S_api_Header) (l3 : (List Bs)) : Option ((List Bs) ⊕ ((List Bs))) :=
  (m_message_isNamed x7 name2).bind fun (r10 : (Bool)) => if r10 then (if l3.length + 1 ≤ 1000000000 then (message_Values_J2 (l3 ++ [x7.Value])) else none) else (message_Values_J2 l3)
noncomputable def message_Values_E1 (l3 : (List Bs)) : Option ((List Bs)) :=
  some l3
noncomputable def m_message_Values (l1 : (List S_api_Header)) (name2 : Bs) : Option ((List Bs)) :=
  if l1.length ≤ 1000000000 then forL (fun (k : Nat) (x : S_api_Header) (s : (List Bs)) => message_Values_L1 name2 k x s) (fun (s : (List Bs)) => message_Values_E1 s) 0 l1 [] else none
noncomputable def m_cache_isRead (method1 : Bs) : Option (Bool) :=
  some ((decide (method1 = [71, 69, 84])) || (decide (method1 = [72, 69, 65, 68])))
noncomputable def cache_Unchanged_J1 (r9 : ((List Bs))) (r11 : ((List Bs))) (v24 : Bool) : Option (Bool × Int) :=
  if v24 then (some (false, 0)) else ((r9[0]?).bind fun (x26 : Bs) => (r11[0]?).bind fun (x28 : Bs) => (m_cache_Matches x26 x28).bind fun (r30 : (Bool × Int)) => some ((r30.1 && (decide (r30.2 = 0))), 0))
noncomputable def m_cache_Unchanged (r1 : S_api_Request) (a2 : S_api_Response) : Option (Bool × Int) :=
  (m_message_CheckRequest r1).bind fun (r3 : (Int)) => if decide (r3 ≠ 0) then (some (false, r3)) else ((m_message_CheckResponse a2).bind fun (r6 : (Int)) => if decide (r6 ≠ 0) then (some (false, r6)) else ((m_message_Values r1.Headers [105, 102, 45, 110, 111, 110, 101, 45, 109, 97, 116, 99, 104]).bind fun (r9 : ((List Bs))) => (m_message_Values a2.Headers [101, 116, 97, 103]).bind fun (r11 : ((List Bs))) => if decide (a2.Status ≠ 200) then (cache_Unchanged_J1 r9 r11 true) else ((m_cache_isRead r1.Method).bind fun (r15 : (Bool)) => if !r15 then (cache_Unchanged_J1 r9 r11 true) else (if decide ((r9.length : Int) ≠ 1) then (cache_Unchanged_J1 r9 r11 true) else (cache_Unchanged_J1 r9 r11 (decide ((r11.length : Int) ≠ 1)))))))
noncomputable def m_gateref2_in (n1 : Int) (low2 : Int) (high3 : Int) : Option (Bool) :=
  some ((decide (low2 ≤ n1)) && (decide (n1 ≤ high3)))
noncomputable def m_gateref2_Moment (v1 : Int) : Option (Bool) :=
  (m_gateref2_in v1 0 345686399999).bind fun (r2 : (Bool)) => some r2
noncomputable def gateref2_only_L1 (some2 : Bs) (k3 : Nat) (x6 : UInt8) : Option (Unit ⊕ (Bool)) :=
  (m_strings_IndexByte some2 (x6.toNat : Int)).bind fun (r9 : (Int)) => if decide (r9 < 0) then (some (.inr false)) else (some (.inl ()))
noncomputable def gateref2_only_E1 : Option (Bool) :=
  some true
noncomputable def m_gateref2_only (s1 : Bs) (some2 : Bs) : Option (Bool) :=
  if s1.length ≤ 1000000000 then forL (fun (k : Nat) (x : UInt8) (s : Unit) => gateref2_only_L1 some2 k x) (fun (s : Unit) => gateref2_only_E1) 0 s1 () else none
noncomputable def gateref2_Token_J1 (v9 : Bool) : Option (Bool) :=
  some v9
noncomputable def m_gateref2_Token (s1 : Bs) : Option (Bool) :=
  (m_gateref2_in (s1.length : Int) 1 100).bind fun (r2 : (Bool)) => if r2 then ((m_gateref2_only s1 [97, 98, 99, 100, 101, 102, 103, 104, 105, 106, 107, 108, 109, 110, 111, 112, 113, 114, 115, 116, 117, 118, 119, 120, 121, 122, 65, 66, 67, 68, 69, 70, 71, 72, 73, 74, 75, 76, 77, 78, 79, 80, 81, 82, 83, 84, 85, 86, 87, 88, 89, 90, 48, 49, 50, 51, 52, 53, 54, 55, 56, 57, 33, 35, 36, 37, 38, 39, 42, 43, 45, 46, 94, 95, 96, 124, 126]).bind fun (r6 : (Bool)) => gateref2_Token_J1 r6) else (gateref2_Token_J1 false)
noncomputable def gateref2_Number_J2 (r15 : (Int × Int)) (v22 : Bool) : Option (Int × Bool) :=
  some (r15.1, v22)
noncomputable def gateref2_Number_J1 (s1 : Bs) (v13 : Bool) : Option (Int × Bool) :=
  if v13 then (some (0, false)) else ((m_strconv_Atoi s1).bind fun (r15 : (Int × Int)) => if decide (r15.2 = 0) then ((m_strconv_Itoa r15.1).bind fun (r19 : (Bs)) => gateref2_Number_J2 r15 (decide (r19 = s1))) else (gateref2_Number_J2 r15 false))
noncomputable def m_gateref2_Number (s1 : Bs) (most2 : Int) : Option (Int × Bool) :=
  (m_strings_TrimPrefix s1 [45]).bind fun (r3 : (Bs)) => if decide (r3 = []) then (gateref2_Number_J1 s1 true) else (if decide (most2 < (r3.length : Int)) then (gateref2_Number_J1 s1 true) else ((m_gateref2_only r3 [48, 49, 50, 51, 52, 53, 54, 55, 56, 57]).bind fun (r9 : (Bool)) => gateref2_Number_J1 s1 (!r9)))
noncomputable def gateref2_HostOf_J3 (v30 : Bs) : Option (Bs × Int) :=
  some (v30, 0)
noncomputable def gateref2_HostOf_J4 (v45 : Bool) : Option (Unit ⊕ (Bs × Int)) :=
  if v45 then (some (.inr ([], 3))) else (some (.inl ()))
noncomputable def gateref2_HostOf_L2 (k21 : Nat) (x24 : Bs) : Option (Unit ⊕ (Bs × Int)) :=
  (m_gateref2_in (x24.length : Int) 1 63).bind fun (r33 : (Bool)) => if !r33 then (gateref2_HostOf_J4 true) else ((m_gateref2_only x24 [97, 98, 99, 100, 101, 102, 103, 104, 105, 106, 107, 108, 109, 110, 111, 112, 113, 114, 115, 116, 117, 118, 119, 120, 121, 122, 65, 66, 67, 68, 69, 70, 71, 72, 73, 74, 75, 76, 77, 78, 79, 80, 81, 82, 83, 84, 85, 86, 87, 88, 89, 90, 48, 49, 50, 51, 52, 53, 54, 55, 56, 57, 45]).bind fun (r37 : (Bool)) => if !r37 then (gateref2_HostOf_J4 true) else ((m_strings_Trim x24 [45]).bind fun (r41 : (Bs)) => gateref2_HostOf_J4 (decide (r41 ≠ x24))))
noncomputable def gateref2_HostOf_E2 (r2 : (Bs × Bs × Bool)) (r4 : (Int × Bool)) : Option (Bs × Int) :=
  (m_strings_ToLower r2.1).bind fun (r25 : (Bs)) => if ((r2.2.2 && (decide (r4.1 ≠ 80))) && (decide (r4.1 ≠ 443))) then (if [58].length + r2.2.1.length ≤ 1000000000 then (if r25.length + ([58] ++ r2.2.1).length ≤ 1000000000 then (gateref2_HostOf_J3 (r25 ++ ([58] ++ r2.2.1))) else none) else none) else (gateref2_HostOf_J3 r25)
noncomputable def gateref2_HostOf_J1 (r2 : (Bs × Bs × Bool)) (r4 : (Int × Bool)) (v17 : Bool) : Option (Bs × Int) :=
  if v17 then (some ([], 3)) else ((m_strings_Split r2.1 [46]).bind fun (r19 : ((List Bs))) => if r19.length ≤ 1000000000 then forL (fun (k : Nat) (x : Bs) (s : Unit) => gateref2_HostOf_L2 k x) (fun (s : Unit) => gateref2_HostOf_E2 r2 r4) 0 r19 () else none)
noncomputable def m_gateref2_HostOf (v1 : Bs) : Option (Bs × Int) :=
  (m_strings_Cut v1 [58]).bind fun (r2 : (Bs × Bs × Bool)) => (m_gateref2_Number r2.2.1 5).bind fun (r4 : (Int × Bool)) => if decide (255 < (v1.length : Int)) then (gateref2_HostOf_J1 r2 r4 true) else (if r2.2.2 then (if !r4.2 then (gateref2_HostOf_J1 r2 r4 true) else ((m_gateref2_in r4.1 1 65535).bind fun (r12 : (Bool)) => gateref2_HostOf_J1 r2 r4 (!r12))) else (gateref2_HostOf_J1 r2 r4 false))
noncomputable def gateref2_pathForm_J1 (v19 : Bool) : Option (Bool) :=
  some v19
noncomputable def m_gateref2_pathForm (s1 : Bs) : Option (Bool) :=
  (m_gateref2_in (s1.length : Int) 1 1000).bind fun (r2 : (Bool)) => if r2 then ((s1[0]?).bind fun (x6 : UInt8) => if decide ((x6.toNat : Int) = 47) then ((m_gateref2_visible s1 33).bind fun (r10 : (Bool)) => if r10 then ((m_strings_ContainsAny s1 [63, 35]).bind fun (r14 : (Bool)) => gateref2_pathForm_J1 (!r14)) else (gateref2_pathForm_J1 false)) else (gateref2_pathForm_J1 false)) else (gateref2_pathForm_J1 false)
noncomputable def gateref2_queryForm_J1 (v12 : Bool) : Option (Bool) :=
  some v12
noncomputable def m_gateref2_queryForm (s1 : Bs) : Option (Bool) :=
  if decide ((s1.length : Int) ≤ 1000) then ((m_gateref2_visible s1 33).bind fun (r4 : (Bool)) => if r4 then ((m_strings_Contains s1 [35]).bind fun (r8 : (Bool)) => gateref2_queryForm_J1 (!r8)) else (gateref2_queryForm_J1 false)) else (gateref2_queryForm_J1 false)
noncomputable def gateref2_Field_J1 (v12 : Bool) : Option (Bool) :=
  some v12
noncomputable def m_gateref2_Field (s1 : Bs) : Option (Bool) :=
  if decide ((s1.length : Int) ≤ 2000) then ((m_gateref2_visible s1 32).bind fun (r4 : (Bool)) => if r4 then ((m_strings_Trim s1 [32]).bind fun (r8 : (Bs)) => gateref2_Field_J1 (decide (r8 = s1))) else (gateref2_Field_J1 false)) else (gateref2_Field_J1 false)
noncomputable def gateref2_HeadersFault_L1 (k3 : Nat) (x6 : S_api_Header) : Option (Unit ⊕ (Int)) :=
  (m_gateref2_Token x6.Name).bind fun (r9 : (Bool)) => if !r9 then (some (.inr 5)) else ((m_gateref2_Field x6.Value).bind fun (r12 : (Bool)) => if !r12 then (some (.inr 3)) else (some (.inl ())))
noncomputable def gateref2_HeadersFault_E1 : Option (Int) :=
  some 0
noncomputable def m_gateref2_HeadersFault (l1 : (List S_api_Header)) : Option (Int) :=
  if decide (50 < (l1.length : Int)) then some 2 else (if l1.length ≤ 1000000000 then forL (fun (k : Nat) (x : S_api_Header) (s : Unit) => gateref2_HeadersFault_L1 k x) (fun (s : Unit) => gateref2_HeadersFault_E1) 0 l1 () else none)
noncomputable def gateref2_RequestFault_J1 (r1 : S_api_Request) (v23 : Bool) : Option (Int) :=
  if v23 then some 3 else ((m_gateref2_HeadersFault r1.Headers).bind fun (r25 : (Int)) => if decide (r25 ≠ 0) then some r25 else (if decide (20000 < (r1.Body.length : Int)) then some 2 else some 0))
noncomputable def m_gateref2_RequestFault (r1 : S_api_Request) : Option (Int) :=
  (m_gateref2_Moment r1.At).bind fun (r2 : (Bool)) => if !r2 then some 1 else ((m_gateref2_Token r1.Method).bind fun (r5 : (Bool)) => if !r5 then some 5 else ((m_gateref2_HostOf r1.Host).bind fun (r8 : (Bs × Int)) => if decide (r8.2 ≠ 0) then some r8.2 else ((m_gateref2_pathForm r1.Path).bind fun (r11 : (Bool)) => if !r11 then (gateref2_RequestFault_J1 r1 true) else ((m_gateref2_queryForm r1.Query).bind fun (r15 : (Bool)) => if !r15 then (gateref2_RequestFault_J1 r1 true) else ((m_gateref2_Field r1.From).bind fun (r19 : (Bool)) => gateref2_RequestFault_J1 r1 (!r19))))))
noncomputable def m_gateref2_ResponseFault (a1 : S_api_Response) : Option (Int) :=
  (m_gateref2_in a1.Status 100 599).bind fun (r2 : (Bool)) => if !r2 then some 1 else ((m_gateref2_HeadersFault a1.Headers).bind fun (r5 : (Int)) => if decide (r5 ≠ 0) then some r5 else (if decide (20000 < (a1.Body.length : Int)) then some 2 else some 0))
noncomputable def gatelaw2_errs_L1 (k2 : Nat) (x5 : Int) : Option (Unit ⊕ (Int)) :=
  if decide (x5 ≠ 0) then (some (.inr x5)) else (some (.inl ()))
noncomputable def gatelaw2_errs_E1 : Option (Int) :=
  some 0
noncomputable def m_gatelaw2_errs (l1 : (List Int)) : Option (Int) :=
  if l1.length ≤ 1000000000 then forL (fun (k : Nat) (x : Int) (s : Unit) => gatelaw2_errs_L1 k x) (fun (s : Unit) => gatelaw2_errs_E1) 0 l1 () else none
noncomputable def m_gateref2_alike (a1 : Bs) (b2 : Bs) : Option (Bool) :=
  (m_strings_ToLower a1).bind fun (r3 : (Bs)) => (m_strings_ToLower b2).bind fun (r5 : (Bs)) => some (decide (r3 = r5))
noncomputable def gateref2_Values_J2 (out14 : (List Bs)) : Option ((List Bs) ⊕ ((List Bs))) :=
  some (.inl out14)
noncomputable def gateref2_Values_L1 (name2 : Bs) (k4 : Nat) (x7 : S_api_Header) (l3 : (List Bs)) : Option ((List Bs) ⊕ ((List Bs))) :=
  (m_gateref2_alike x7.Name name2).bind fun (r10 : (Bool)) => if r10 then (if l3.length + 1 ≤ 1000000000 then (gateref2_Values_J2 (l3 ++ [x7.Value])) else none) else (gateref2_Values_J2 l3)
noncomputable def gateref2_Values_E1 (l3 : (List Bs)) : Option ((List Bs)) :=
  some l3
noncomputable def m_gateref2_Values (l1 : (List S_api_Header)) (name2 : Bs) : Option ((List Bs)) :=
  if l1.length ≤ 1000000000 then forL (fun (k : Nat) (x : S_api_Header) (s : (List Bs)) => gateref2_Values_L1 name2 k x s) (fun (s : (List Bs)) => gateref2_Values_E1 s) 0 l1 [] else none
noncomputable def m_gateref2_UnchangedOf (r1 : S_api_Request) (a2 : S_api_Response) : Option (Bool) :=
  (m_gateref2_Values r1.Headers [105, 102, 45, 110, 111, 110, 101, 45, 109, 97, 116, 99, 104]).bind fun (r3 : ((List Bs))) => (m_gateref2_Values a2.Headers [101, 116, 97, 103]).bind fun (r5 : ((List Bs))) => if ((((decide (a2.Status ≠ 200)) || ((decide (r1.Method ≠ [71, 69, 84])) && (decide (r1.Method ≠ [72, 69, 65, 68])))) || (decide ((r3.length : Int) ≠ 1))) || (decide ((r5.length : Int) ≠ 1))) then some false else ((r3[0]?).bind fun (x8 : Bs) => (r5[0]?).bind fun (x10 : Bs) => (m_gateref2_MatchesOf x8 x10).bind fun (r12 : (Bool × Int)) => some r12.1)
noncomputable def m_cache_numbers  : Option ((List Bs) × (List Int)) :=
  some ([[109, 97, 120, 45, 97, 103, 101], [115, 45, 109, 97, 120, 97, 103, 101], [115, 116, 97, 108, 101, 45, 119, 104, 105, 108, 101, 45, 114, 101, 118, 97, 108, 105, 100, 97, 116, 101], [115, 116, 97, 108, 101, 45, 105, 102, 45, 101, 114, 114, 111, 114], [109, 97, 120, 45, 115, 116, 97, 108, 101], [109, 105, 110, 45, 102, 114, 101, 115, 104]], ([6, 7, 8, 9, 10, 11] : List Int))
noncomputable def message_Parts_J3 (out22 : (List Bs)) : Option ((List Bs) ⊕ ((List Bs) ⊕ ((List Bs)))) :=
  some (.inl out22)
noncomputable def message_Parts_L2 (k12 : Nat) (x15 : Bs) (l11 : (List Bs)) : Option ((List Bs) ⊕ ((List Bs) ⊕ ((List Bs)))) :=
  (m_strings_Trim x15 [32]).bind fun (r18 : (Bs)) => if decide (r18 ≠ []) then (if l11.length + 1 ≤ 1000000000 then (message_Parts_J3 (l11 ++ [r18])) else none) else (message_Parts_J3 l11)
noncomputable def message_Parts_E2 (l11 : (List Bs)) : Option ((List Bs) ⊕ ((List Bs))) :=
  some (.inl l11)
noncomputable def message_Parts_L1 (k3 : Nat) (x6 : Bs) (l2 : (List Bs)) : Option ((List Bs) ⊕ ((List Bs))) :=
  (m_strings_Split x6 [44]).bind fun (r9 : ((List Bs))) => if r9.length ≤ 1000000000 then forL (fun (k : Nat) (x : Bs) (s : (List Bs)) => message_Parts_L2 k x s) (fun (s : (List Bs)) => message_Parts_E2 s) 0 r9 l2 else none
noncomputable def message_Parts_E1 (l2 : (List Bs)) : Option ((List Bs)) :=
  some l2
noncomputable def m_message_Parts (values1 : (List Bs)) : Option ((List Bs)) :=
  if values1.length ≤ 1000000000 then forL (fun (k : Nat) (x : Bs) (s : (List Bs)) => message_Parts_L1 k x s) (fun (s : (List Bs)) => message_Parts_E1 s) 0 values1 [] else none
noncomputable def cache_seconds_J1 (r2 : (Int × Bool)) (v9 : Bool) : Option (Int × Bool) :=
  some (r2.1, v9)
noncomputable def m_cache_seconds (s1 : Bs) : Option (Int × Bool) :=
  (m_kit_Small s1).bind fun (r2 : (Int × Bool)) => if r2.2 then ((m_kit_Outside r2.1 0 100000000).bind fun (r6 : (Bool)) => cache_seconds_J1 r2 (!r6)) else (cache_seconds_J1 r2 false)
noncomputable def m_cache_flags  : Option ((List Bs) × (List Int)) :=
  some ([[110, 111, 45, 115, 116, 111, 114, 101], [110, 111, 45, 99, 97, 99, 104, 101], [112, 114, 105, 118, 97, 116, 101], [112, 117, 98, 108, 105, 99], [109, 117, 115, 116, 45, 114, 101, 118, 97, 108, 105, 100, 97, 116, 101], [111, 110, 108, 121, 45, 105, 102, 45, 99, 97, 99, 104, 101, 100]], ([0, 1, 2, 3, 4, 5] : List Int))
noncomputable def cache_told_J1 (r3 : (Bs × Bs × Bool)) (c41 : Bool) (c42 : Bool) (c43 : Bool) (c44 : Bool) (c45 : Bool) (c46 : Bool) (c47 : Int) (c48 : Int) (c49 : Int) (c50 : Int) (c51 : Int) (c52 : Int) : Option (Bool × S_api_Control) :=
  some (r3.2.2, (S_api_Control.mk c41 c42 c43 c44 c45 c46 c47 c48 c49 c50 c51 c52))
noncomputable def cache_told_J2 (s1 : S_api_Control) (r3 : (Bs × Bs × Bool)) (r5 : (Int × Bool)) (r22 : ((List Bs) × (List Int))) (r24 : (Int)) (v34 : Bool) : Option (Bool × S_api_Control) :=
  if v34 then ((at? r22.2 r24).bind fun (x36 : Int) => if ck_S_api_Control_int x36 = true then ((some (st_S_api_Control_int s1 x36 r5.1)).bind fun (c39 : S_api_Control) => cache_told_J1 r3 c39.NoStore c39.NoCache c39.Private c39.Public c39.Must c39.Only c39.MaxAge c39.Shared c39.Stale c39.OnError c39.MaxStale c39.MinFresh) else none) else (cache_told_J1 r3 s1.NoStore s1.NoCache s1.Private s1.Public s1.Must s1.Only s1.MaxAge s1.Shared s1.Stale s1.OnError s1.MaxStale s1.MinFresh)
noncomputable def m_cache_told (s1 : S_api_Control) (v2 : Bs) : Option (Bool × S_api_Control) :=
  (m_strings_Cut v2 [61]).bind fun (r3 : (Bs × Bs × Bool)) => (m_cache_seconds r3.2.1).bind fun (r5 : (Int × Bool)) => (m_message_IsToken r3.1).bind fun (r7 : (Bool)) => if ((!r7) || (r3.2.2 && (!r5.2))) then (some (false, s1)) else ((m_strings_ToLower r3.1).bind fun (r10 : (Bs)) => (m_cache_flags).bind fun (r12 : ((List Bs) × (List Int))) => (m_slices_Index_L_string_string_ r12.1 r10).bind fun (r14 : (Int)) => if decide (0 ≤ r14) then ((at? r12.2 r14).bind fun (x17 : Int) => if ck_S_api_Control_bool x17 = true then ((some (st_S_api_Control_bool s1 x17 true)).bind fun (c20 : S_api_Control) => some (!r3.2.2, c20)) else none) else ((m_cache_numbers).bind fun (r22 : ((List Bs) × (List Int))) => (m_slices_Index_L_string_string_ r22.1 r10).bind fun (r24 : (Int)) => if decide (r24 < 0) then (some (true, s1)) else ((at? r22.2 r24).bind fun (x27 : Int) => if ck_S_api_Control_int x27 = true then (if decide ((gt_S_api_Control_int s1 x27) = (-1)) then (cache_told_J2 s1 r3 r5 r22 r24 true) else (if ck_S_api_Control_int x27 = true then (cache_told_J2 s1 r3 r5 r22 r24 (decide (r5.1 < (gt_S_api_Control_int s1 x27)))) else none)) else none)))
noncomputable def cache_parse_L2 (k36 : Nat) (x39 : Bs) (c24 : Bool) (c25 : Bool) (c26 : Int) (c27 : Int) (c28 : Bool) (c29 : Bool) (c30 : Bool) (c31 : Bool) (c32 : Int) (c33 : Int) (c34 : Int) (c35 : Int) : Option ((Bool × Bool × Int × Int × Bool × Bool × Bool × Bool × Int × Int × Int × Int) ⊕ (S_api_Control × Int)) :=
  (m_cache_told (S_api_Control.mk c24 c25 c28 c29 c30 c31 c32 c33 c34 c35 c26 c27) x39).bind fun (r42 : (Bool × S_api_Control)) => if !r42.1 then (some (.inr ((S_api_Control.mk false false false false false false 0 0 0 0 0 0), 9))) else (some (.inl (r42.2.NoStore, r42.2.NoCache, r42.2.MaxStale, r42.2.MinFresh, r42.2.Private, r42.2.Public, r42.2.Must, r42.2.Only, r42.2.MaxAge, r42.2.Shared, r42.2.Stale, r42.2.OnError)))
noncomputable def cache_parse_E2 (c24 : Bool) (c25 : Bool) (c26 : Int) (c27 : Int) (c28 : Bool) (c29 : Bool) (c30 : Bool) (c31 : Bool) (c32 : Int) (c33 : Int) (c34 : Int) (c35 : Int) : Option (S_api_Control × Int) :=
  some ((S_api_Control.mk c24 c25 c28 c29 c30 c31 c32 c33 c34 c35 c26 c27), 0)
noncomputable def cache_parse_L1 (k16 : Nat) (x19 : Int) (c4 : Bool) (c5 : Bool) (c6 : Int) (c7 : Int) (c8 : Bool) (c9 : Bool) (c10 : Bool) (c11 : Bool) (c12 : Int) (c13 : Int) (c14 : Int) (c15 : Int) : Option ((Bool × Bool × Int × Int × Bool × Bool × Bool × Bool × Int × Int × Int × Int) ⊕ (S_api_Control × Int)) :=
  if ck_S_api_Control_int x19 = true then ((some (st_S_api_Control_int (S_api_Control.mk c4 c5 c8 c9 c10 c11 c12 c13 c14 c15 c6 c7) x19 (-1))).bind fun (c48 : S_api_Control) => some (.inl (c48.NoStore, c48.NoCache, c48.MaxStale, c48.MinFresh, c48.Private, c48.Public, c48.Must, c48.Only, c48.MaxAge, c48.Shared, c48.Stale, c48.OnError))) else none
noncomputable def cache_parse_E1 (l1 : (List S_api_Header)) (c4 : Bool) (c5 : Bool) (c6 : Int) (c7 : Int) (c8 : Bool) (c9 : Bool) (c10 : Bool) (c11 : Bool) (c12 : Int) (c13 : Int) (c14 : Int) (c15 : Int) : Option (S_api_Control × Int) :=
  (m_message_Values l1 [99, 97, 99, 104, 101, 45, 99, 111, 110, 116, 114, 111, 108]).bind fun (r20 : ((List Bs))) => (m_message_Parts r20).bind fun (r22 : ((List Bs))) => if r22.length ≤ 1000000000 then forL (fun (k : Nat) (x : Bs) (s : Bool × Bool × Int × Int × Bool × Bool × Bool × Bool × Int × Int × Int × Int) => cache_parse_L2 k x s.1 s.2.1 s.2.2.1 s.2.2.2.1 s.2.2.2.2.1 s.2.2.2.2.2.1 s.2.2.2.2.2.2.1 s.2.2.2.2.2.2.2.1 s.2.2.2.2.2.2.2.2.1 s.2.2.2.2.2.2.2.2.2.1 s.2.2.2.2.2.2.2.2.2.2.1 s.2.2.2.2.2.2.2.2.2.2.2) (fun (s : Bool × Bool × Int × Int × Bool × Bool × Bool × Bool × Int × Int × Int × Int) => cache_parse_E2 s.1 s.2.1 s.2.2.1 s.2.2.2.1 s.2.2.2.2.1 s.2.2.2.2.2.1 s.2.2.2.2.2.2.1 s.2.2.2.2.2.2.2.1 s.2.2.2.2.2.2.2.2.1 s.2.2.2.2.2.2.2.2.2.1 s.2.2.2.2.2.2.2.2.2.2.1 s.2.2.2.2.2.2.2.2.2.2.2) 0 r22 (c4, c5, c6, c7, c8, c9, c10, c11, c12, c13, c14, c15) else none
noncomputable def m_cache_parse (l1 : (List S_api_Header)) : Option (S_api_Control × Int) :=
  (m_cache_numbers).bind fun (r2 : ((List Bs) × (List Int))) => if r2.2.length ≤ 1000000000 then forL (fun (k : Nat) (x : Int) (s : Bool × Bool × Int × Int × Bool × Bool × Bool × Bool × Int × Int × Int × Int) => cache_parse_L1 k x s.1 s.2.1 s.2.2.1 s.2.2.2.1 s.2.2.2.2.1 s.2.2.2.2.2.1 s.2.2.2.2.2.2.1 s.2.2.2.2.2.2.2.1 s.2.2.2.2.2.2.2.2.1 s.2.2.2.2.2.2.2.2.2.1 s.2.2.2.2.2.2.2.2.2.2.1 s.2.2.2.2.2.2.2.2.2.2.2) (fun (s : Bool × Bool × Int × Int × Bool × Bool × Bool × Bool × Int × Int × Int × Int) => cache_parse_E1 l1 s.1 s.2.1 s.2.2.1 s.2.2.2.1 s.2.2.2.2.1 s.2.2.2.2.2.1 s.2.2.2.2.2.2.1 s.2.2.2.2.2.2.2.1 s.2.2.2.2.2.2.2.2.1 s.2.2.2.2.2.2.2.2.2.1 s.2.2.2.2.2.2.2.2.2.2.1 s.2.2.2.2.2.2.2.2.2.2.2) 0 r2.2 (false, false, 0, 0, false, false, false, false, 0, 0, 0, 0) else none
noncomputable def m_kit_Rising (l1 : (List Bs)) : Option ((List Bs)) :=
  (m_slices_Clone l1).bind fun (r2 : ((List Bs))) => (m_slices_Sort_string r2).bind fun (r4 : (List Bs)) => (m_slices_Compact_string r4).bind fun (r6 : ((List Bs))) => some r6
noncomputable def cache_vary_L1 (k7 : Nat) (l6 : (List Bs)) : Option ((List Bs) ⊕ ((List Bs) × Bool × Int)) :=
  (l6[k7]?).bind fun (x17 : Bs) => (m_message_IsToken x17).bind fun (r19 : (Bool)) => if !r19 then (some (.inr ([], false, 9))) else ((m_strings_ToLower x17).bind fun (r22 : (Bs)) => some (.inl (l6.set k7 r22)))
noncomputable def cache_vary_E1 (l6 : (List Bs)) : Option ((List Bs) × Bool × Int) :=
  (m_slices_Contains_L_string_string_ l6 [42]).bind fun (r10 : (Bool)) => if r10 then (some ([], true, 0)) else ((m_kit_Rising l6).bind fun (r13 : ((List Bs))) => if decide (10 < (r13.length : Int)) then (some ([], false, 2)) else (some (r13, false, 0)))
noncomputable def m_cache_vary (a1 : S_api_Response) : Option ((List Bs) × Bool × Int) :=
  (m_message_Values a1.Headers [118, 97, 114, 121]).bind fun (r2 : ((List Bs))) => (m_message_Parts r2).bind fun (r4 : ((List Bs))) => if r4.length ≤ 1000000000 then rng (fun (k : Nat) (s : (List Bs)) => cache_vary_L1 k s) (fun (s : (List Bs)) => cache_vary_E1 s) r4.length 0 r4 else none
noncomputable def m_cache_lifetime (c1 : S_api_Control) : Option (Int) :=
  if c1.NoCache then some 0 else (if decide (c1.Shared ≠ (-1)) then (some (wr (c1.Shared * 1000))) else (if decide (c1.MaxAge ≠ (-1)) then (some (wr (c1.MaxAge * 1000))) else some 0))
noncomputable def m_cache_Lifetime (a1 : S_api_Response) : Option (Int × Int) :=
  (m_message_CheckResponse a1).bind fun (r2 : (Int)) => if decide (r2 ≠ 0) then (some (0, r2)) else ((m_cache_parse a1.Headers).bind fun (r5 : (S_api_Control × Int)) => if decide (r5.2 ≠ 0) then (some (0, r5.2)) else ((m_cache_vary a1).bind fun (r8 : ((List Bs) × Bool × Int)) => if decide (r8.2.2 ≠ 0) then (some (0, r8.2.2)) else ((m_cache_lifetime r5.1).bind fun (r11 : (Int)) => some (r11, 0))))
noncomputable def m_gatelaw2_kept  : Option (Bool) :=
  (m_cache_Lifetime (S_api_Response.mk 200 ([(S_api_Header.mk [99, 97, 99, 104, 101, 45, 99, 111, 110, 116, 114, 111, 108] [109, 97, 120, 45, 97, 103, 101, 61, 50])]) [])).bind fun (r1 : (Int × Int)) => some ((decide (r1.2 = 0)) && (decide (r1.1 = 2000)))
noncomputable def gatelaw2_TagsMatch_J1 (v46 : Bool) : Option (Bool) :=
  some v46
noncomputable def m_gatelaw2_TagsMatch (v1 : (List Int)) : Option (Bool) :=
  (m_gatemake_Stream_TagHeader (S_gatemake_Stream.mk v1 0)).bind fun (r2 : (Bs × S_gatemake_Stream)) => (m_gatemake_Stream_Some r2.2 ([[34, 97, 34], [87, 47, 34, 97, 34], [34, 98, 34], [34, 34], [97], [], [34, 97, 44, 98, 34], [87, 47]])).bind fun (r4 : (Bs × S_gatemake_Stream)) => (m_gatemake_Stream_CacheRequest r4.2 0).bind fun (r6 : (S_api_Request × S_gatemake_Stream)) => (m_gatemake_Stream_CacheResponse r6.2).bind fun (r8 : (S_api_Response × S_gatemake_Stream)) => (m_cache_Matches r2.1 r4.1).bind fun (r10 : (Bool × Int)) => (m_gateref2_MatchesOf r2.1 r4.1).bind fun (r12 : (Bool × Int)) => (m_cache_Unchanged r6.1 r8.1).bind fun (r14 : (Bool × Int)) => (m_gateref2_RequestFault r6.1).bind fun (r16 : (Int)) => (m_gateref2_ResponseFault r8.1).bind fun (r18 : (Int)) => (m_gatelaw2_errs [r16, r18]).bind fun (r20 : (Int)) => if (r10.1 == r12.1) then (if decide (r10.2 = r12.2) then (if decide (r14.2 = r20) then (if decide (r20 = 0) then ((m_gateref2_UnchangedOf r6.1 r8.1).bind fun (r30 : (Bool)) => if (r14.1 == r30) then ((m_gatelaw2_kept ).bind fun (r34 : (Bool)) => gatelaw2_TagsMatch_J1 r34) else (gatelaw2_TagsMatch_J1 false)) else (if (r14.1 == false) then ((m_gatelaw2_kept ).bind fun (r40 : (Bool)) => gatelaw2_TagsMatch_J1 r40) else (gatelaw2_TagsMatch_J1 false))) else (gatelaw2_TagsMatch_J1 false)) else (gatelaw2_TagsMatch_J1 false)) else (gatelaw2_TagsMatch_J1 false)
end Go.Proofs.YtbicifgfibafmaaGreatDoor
