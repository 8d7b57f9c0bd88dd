/- Plain models of functions. Printed by a program. -/
import Derived.Test.YthgeeoecgneclaaGreatDoorMc
namespace Go.Proofs.YthgeeoecgneclaaGreatDoor
set_option linter.unusedVariables false
set_option maxRecDepth 20000
structure S_gatemake_Stream where
  L : (List Int)
  at_ : Int
structure S_api_Header where
  Name : Bs
  Value : Bs
structure S_api_Control where
  NoStore : Bool
  NoCache : Bool
  Private : Bool
  Public : Bool
  Must : Bool
  Only : Bool
  MaxAge : Int
  Shared : Int
  Stale : Int
  OnError : Int
  MaxStale : Int
  MinFresh : Int
structure S_api_Response where
  Status : Int
  Headers : (List S_api_Header)
  Body : Bs
def ck_S_api_Control_bool (x : Int) : Bool := decide (x = 0) || decide (x = 1) || decide (x = 2) || decide (x = 3) || decide (x = 4) || decide (x = 5)
def gt_S_api_Control_bool (c : S_api_Control) (x : Int) : Bool := if x = 0 then c.NoStore else if x = 1 then c.NoCache else if x = 2 then c.Private else if x = 3 then c.Public else if x = 4 then c.Must else if x = 5 then c.Only else false
def st_S_api_Control_bool (c : S_api_Control) (x : Int) (y : Bool) : S_api_Control := if x = 0 then S_api_Control.mk y c.NoCache c.Private c.Public c.Must c.Only c.MaxAge c.Shared c.Stale c.OnError c.MaxStale c.MinFresh else if x = 1 then S_api_Control.mk c.NoStore y c.Private c.Public c.Must c.Only c.MaxAge c.Shared c.Stale c.OnError c.MaxStale c.MinFresh else if x = 2 then S_api_Control.mk c.NoStore c.NoCache y c.Public c.Must c.Only c.MaxAge c.Shared c.Stale c.OnError c.MaxStale c.MinFresh else if x = 3 then S_api_Control.mk c.NoStore c.NoCache c.Private y c.Must c.Only c.MaxAge c.Shared c.Stale c.OnError c.MaxStale c.MinFresh else if x = 4 then S_api_Control.mk c.NoStore c.NoCache c.Private c.Public y c.Only c.MaxAge c.Shared c.Stale c.OnError c.MaxStale c.MinFresh else if x = 5 then S_api_Control.mk c.NoStore c.NoCache c.Private c.Public c.Must y c.MaxAge c.Shared c.Stale c.OnError c.MaxStale c.MinFresh else c
def ck_S_api_Control_int (x : Int) : Bool := decide (x = 6) || decide (x = 7) || decide (x = 8) || decide (x = 9) || decide (x = 10) || decide (x = 11)
def gt_S_api_Control_int (c : S_api_Control) (x : Int) : Int := if x = 6 then c.MaxAge else if x = 7 then c.Shared else if x = 8 then c.Stale else if x = 9 then c.OnError else if x = 10 then c.MaxStale else if x = 11 then c.MinFresh else 0
def st_S_api_Control_int (c : S_api_Control) (x : Int) (y : Int) : S_api_Control := if x = 6 then S_api_Control.mk c.NoStore c.NoCache c.Private c.Public c.Must c.Only y c.Shared c.Stale c.OnError c.MaxStale c.MinFresh else if x = 7 then S_api_Control.mk c.NoStore c.NoCache c.Private c.Public c.Must c.Only c.MaxAge y c.Stale c.OnError c.MaxStale c.MinFresh else if x = 8 then S_api_Control.mk c.NoStore c.NoCache c.Private c.Public c.Must c.Only c.MaxAge c.Shared y c.OnError c.MaxStale c.MinFresh else if x = 9 then S_api_Control.mk c.NoStore c.NoCache c.Private c.Public c.Must c.Only c.MaxAge c.Shared c.Stale y c.MaxStale c.MinFresh else if x = 10 then S_api_Control.mk c.NoStore c.NoCache c.Private c.Public c.Must c.Only c.MaxAge c.Shared c.Stale c.OnError y c.MinFresh else if x = 11 then S_api_Control.mk c.NoStore c.NoCache c.Private c.Public c.Must c.Only c.MaxAge c.Shared c.Stale c.OnError c.MaxStale y else c
noncomputable def gatemake_Below_J1 (x6 : Int) : Option (Int) :=
  some x6
noncomputable def m_gatemake_Below (x1 : Int) (n2 : Int) : Option (Int) :=
  if decide (n2 < 1) then some 0 else (if n2 ≠ 0 then (if decide ((Int.tmod x1 n2) < 0) then (gatemake_Below_J1 (wr ((Int.tmod x1 n2) + n2))) else (gatemake_Below_J1 (Int.tmod x1 n2))) else none)
noncomputable def m_gatemake_Stream_Next (s1 : S_gatemake_Stream) (n2 : Int) : Option (Int × S_gatemake_Stream) :=
  if decide ((s1.L.length : Int) = 0) then ((m_gatemake_Below (wr ((wr (s1.at_ + 1)) * 7919)) n2).bind fun (r4 : (Int)) => some (r4, (S_gatemake_Stream.mk s1.L (wr (s1.at_ + 1))))) else (if (s1.L.length : Int) ≠ 0 then (if ((0 : Int) ≤ (wr ((wr (s1.at_ + 1)) - 1)) ∧ (wr ((wr (s1.at_ + 1)) - 1)) ≤ 9223372036854775807) ∧ (0 : Int) < (s1.L.length : Int) then ((at? s1.L (Int.tmod (wr ((wr (s1.at_ + 1)) - 1)) (s1.L.length : Int))).bind fun (x8 : Int) => (m_gatemake_Below x8 1073741824).bind fun (r10 : (Int)) => (m_gatemake_Below (wr (r10 + (wr (((wr ((wr (s1.at_ + 1)) - 1)) / (s1.L.length : Int)) * (wr (7919 + (Int.tmod (wr ((wr (s1.at_ + 1)) - 1)) (s1.L.length : Int)))))))) n2).bind fun (r12 : (Int)) => some (r12, (S_gatemake_Stream.mk s1.L (wr (s1.at_ + 1))))) else none) else none)
noncomputable def m_gatemake_Stream_Range (s1 : S_gatemake_Stream) (low2 : Int) (high3 : Int) : Option (Int × S_gatemake_Stream) :=
  if decide (high3 < low2) then (some (low2, s1)) else ((m_gatemake_Stream_Next s1 (wr ((wr (high3 - low2)) + 1))).bind fun (r5 : (Int × S_gatemake_Stream)) => some (wr (low2 + r5.1), r5.2))
noncomputable def m_gatemake_Stream_Some (s1 : S_gatemake_Stream) (l2 : (List Bs)) : Option (Bs × S_gatemake_Stream) :=
  (m_gatemake_Stream_Next s1 (l2.length : Int)).bind fun (r3 : (Int × S_gatemake_Stream)) => (at? l2 r3.1).bind fun (x5 : Bs) => some (x5, r3.2)
noncomputable def gatemake_Stream_RightHeaders_L1 (k8 : Nat) (c5 : (List Int)) (c6 : Int) (l7 : (List S_api_Header)) : Option (((List Int) × Int × (List S_api_Header)) ⊕ ((List S_api_Header) × S_gatemake_Stream)) :=
  (m_gatemake_Stream_Some (S_gatemake_Stream.mk c5 c6) ([[97, 99, 99, 101, 112, 116], [65, 99, 99, 101, 112, 116], [120, 45, 111, 110, 101], [88, 45, 84, 119, 111], [99, 111, 111, 107, 105, 101], [118, 97, 114, 121], [99, 111, 110, 110, 101, 99, 116, 105, 111, 110], [120, 45, 102, 111, 114, 119, 97, 114, 100, 101, 100, 45, 102, 111, 114], [118, 105, 97], [120, 45, 102, 111, 114, 119, 97, 114, 100, 101, 100, 45, 104, 111, 115, 116], [116, 101]])).bind fun (r12 : (Bs × S_gatemake_Stream)) => (m_gatemake_Stream_Some r12.2 ([[49], [120], [97, 44, 32, 98], [], [120, 45, 111, 110, 101, 44, 32, 99, 108, 111, 115, 101], [103, 119], [49, 46, 50, 46, 51, 46, 52], [53, 46, 54, 46, 55, 46, 56, 44, 32, 57, 46, 57, 46, 57, 46, 57]])).bind fun (r14 : (Bs × S_gatemake_Stream)) => if l7.length + 1 ≤ 1000000000 then (some (.inl (r14.2.L, r14.2.at_, (l7 ++ [(S_api_Header.mk r12.1 r14.1)])))) else none
noncomputable def gatemake_Stream_RightHeaders_E1 (c5 : (List Int)) (c6 : Int) (l7 : (List S_api_Header)) : Option ((List S_api_Header) × S_gatemake_Stream) :=
  some (l7, (S_gatemake_Stream.mk c5 c6))
noncomputable def m_gatemake_Stream_RightHeaders (s1 : S_gatemake_Stream) (most2 : Int) : Option ((List S_api_Header) × S_gatemake_Stream) :=
  (m_gatemake_Stream_Range s1 0 most2).bind fun (r3 : (Int × S_gatemake_Stream)) => if r3.1 ≤ 1000000000 then rng (fun (k : Nat) (s : (List Int) × Int × (List S_api_Header)) => gatemake_Stream_RightHeaders_L1 k s.1 s.2.1 s.2.2) (fun (s : (List Int) × Int × (List S_api_Header)) => gatemake_Stream_RightHeaders_E1 s.1 s.2.1 s.2.2) r3.1.toNat 0 (r3.2.L, r3.2.at_, []) else none
noncomputable def m_gatemake_Stream_Flip (s1 : S_gatemake_Stream) (n2 : Int) : Option (Bool × S_gatemake_Stream) :=
  (m_gatemake_Stream_Next s1 n2).bind fun (r3 : (Int × S_gatemake_Stream)) => some (decide (r3.1 = 0), r3.2)
noncomputable def m_gatemake_Stream_TokenText (s1 : S_gatemake_Stream) : Option (Bs × S_gatemake_Stream) :=
  (m_strings_Repeat [110] 101).bind fun (r2 : (Bs)) => (m_gatemake_Stream_Some s1 ([[97, 99, 99, 101, 112, 116], [88, 45, 79, 110, 101], [120, 45, 111, 110, 101], [118, 105, 97], [97], [65], [116, 101], [99, 111, 110, 110, 101, 99, 116, 105, 111, 110], [], [97, 32, 98], [97, 58], [127], r2])).bind fun (r4 : (Bs × S_gatemake_Stream)) => some (r4.1, r4.2)
noncomputable def m_gatemake_Stream_FieldText (s1 : S_gatemake_Stream) : Option (Bs × S_gatemake_Stream) :=
  (m_strings_Repeat [118] 2001).bind fun (r2 : (Bs)) => (m_gatemake_Stream_Some s1 ([[49], [120], [97, 44, 32, 98], [], [116, 101, 120, 116, 47, 104, 116, 109, 108], [99, 108, 111, 115, 101], [120, 45, 111, 110, 101], [103, 119, 44, 32, 98], [49, 46, 50, 46, 51, 46, 52, 44, 32, 53, 46, 54, 46, 55, 46, 56], [32, 120], [120, 32], [97, 9, 98], [128], r2])).bind fun (r4 : (Bs × S_gatemake_Stream)) => some (r4.1, r4.2)
noncomputable def gatemake_Stream_Headers_L3 (k20 : Nat) (l19 : (List S_api_Header)) : Option ((List S_api_Header) ⊕ ((List S_api_Header) × S_gatemake_Stream)) :=
  if l19.length + 1 ≤ 1000000000 then (some (.inl (l19 ++ ([(S_api_Header.mk [110] [118])])))) else none
noncomputable def gatemake_Stream_Headers_J2 (out25 : (List S_api_Header)) (c26 : (List Int)) (c27 : Int) : Option ((List S_api_Header) × S_gatemake_Stream) :=
  some (out25, (S_gatemake_Stream.mk c26 c27))
noncomputable def gatemake_Stream_Headers_E3 (r16 : (Bool × S_gatemake_Stream)) (l19 : (List S_api_Header)) : Option ((List S_api_Header) × S_gatemake_Stream) :=
  gatemake_Stream_Headers_J2 l19 r16.2.L r16.2.at_
noncomputable def gatemake_Stream_Headers_J1 (out13 : (List S_api_Header)) (c14 : (List Int)) (c15 : Int) : Option ((List S_api_Header) × S_gatemake_Stream) :=
  (m_gatemake_Stream_Flip (S_gatemake_Stream.mk c14 c15) 60).bind fun (r16 : (Bool × S_gatemake_Stream)) => if r16.1 then (if 51 ≤ 1000000000 then rng (fun (k : Nat) (s : (List S_api_Header)) => gatemake_Stream_Headers_L3 k s) (fun (s : (List S_api_Header)) => gatemake_Stream_Headers_E3 r16 s) 51 0 out13 else none) else (gatemake_Stream_Headers_J2 out13 r16.2.L r16.2.at_)
noncomputable def m_gatemake_Stream_Headers (s1 : S_gatemake_Stream) (most2 : Int) : Option ((List S_api_Header) × S_gatemake_Stream) :=
  (m_gatemake_Stream_RightHeaders s1 most2).bind fun (r3 : ((List S_api_Header) × S_gatemake_Stream)) => (m_gatemake_Stream_Flip r3.2 10).bind fun (r5 : (Bool × S_gatemake_Stream)) => if r5.1 then ((m_gatemake_Stream_TokenText r5.2).bind fun (r8 : (Bs × S_gatemake_Stream)) => (m_gatemake_Stream_FieldText r8.2).bind fun (r10 : (Bs × S_gatemake_Stream)) => if r3.1.length + 1 ≤ 1000000000 then (gatemake_Stream_Headers_J1 (r3.1 ++ [(S_api_Header.mk r8.1 r10.1)]) r10.2.L r10.2.at_) else none) else (gatemake_Stream_Headers_J1 r3.1 r5.2.L r5.2.at_)
noncomputable def m_message_isLetter (c1 : Int) : Option (Bool) :=
  some (((decide (97 ≤ c1)) && (decide (c1 ≤ 122))) || ((decide (65 ≤ c1)) && (decide (c1 ≤ 90))))
noncomputable def m_message_isDigit (c1 : Int) : Option (Bool) :=
  some ((decide (48 ≤ c1)) && (decide (c1 ≤ 57)))
noncomputable def message_isTokenByte_J1 (v14 : Bool) : Option (Bool) :=
  some v14
noncomputable def m_message_isTokenByte (c1 : Int) : Option (Bool) :=
  (m_message_isLetter c1).bind fun (r2 : (Bool)) => if r2 then (message_isTokenByte_J1 true) else ((m_message_isDigit c1).bind fun (r6 : (Bool)) => if r6 then (message_isTokenByte_J1 true) else ((m_strings_IndexByte [33, 35, 36, 37, 38, 39, 42, 43, 45, 46, 94, 95, 96, 124, 126] c1).bind fun (r10 : (Int)) => message_isTokenByte_J1 (decide (0 ≤ r10))))
noncomputable def message_IsToken_L1 (k2 : Nat) (x5 : UInt8) : Option (Unit ⊕ (Bool)) :=
  (m_message_isTokenByte (x5.toNat : Int)).bind fun (r8 : (Bool)) => if !r8 then (some (.inr false)) else (some (.inl ()))
noncomputable def message_IsToken_E1 (s1 : Bs) : Option (Bool) :=
  some ((decide (s1 ≠ [])) && (decide ((s1.length : Int) ≤ 100)))
noncomputable def m_message_IsToken (s1 : Bs) : Option (Bool) :=
  if s1.length ≤ 1000000000 then forL (fun (k : Nat) (x : UInt8) (s : Unit) => message_IsToken_L1 k x) (fun (s : Unit) => message_IsToken_E1 s1) 0 s1 () else none
noncomputable def message_isRange_J2 (v13 : Bool) : Option (Unit ⊕ (Bool)) :=
  if v13 then (some (.inr false)) else (some (.inl ()))
noncomputable def message_isRange_L1 (low2 : Int) (high3 : Int) (k4 : Nat) (x7 : UInt8) : Option (Unit ⊕ (Bool)) :=
  if decide ((x7.toNat : Int) < low2) then (message_isRange_J2 true) else (message_isRange_J2 (decide (high3 < (x7.toNat : Int))))
noncomputable def message_isRange_E1 : Option (Bool) :=
  some true
noncomputable def m_message_isRange (s1 : Bs) (low2 : Int) (high3 : Int) : Option (Bool) :=
  if s1.length ≤ 1000000000 then forL (fun (k : Nat) (x : UInt8) (s : Unit) => message_isRange_L1 low2 high3 k x) (fun (s : Unit) => message_isRange_E1) 0 s1 () else none
noncomputable def strings_trimRightByte_J1 (s14 : Bs) : Option (Bs) :=
  some s14
noncomputable def strings_trimRightByte_J3 (s3 : Bs) (v10 : Bool) : Option (Bs ⊕ (Bs)) :=
  if v10 then ((sub? s3 0 (wr ((s3.length : Int) - 1))).bind fun (l12 : Bs) => some (.inl l12)) else (Option.map .inr (strings_trimRightByte_J1 s3))
noncomputable def strings_trimRightByte_L2 (c2 : Int) (s3 : Bs) : Option (Bs ⊕ (Bs)) :=
  if decide (0 < (s3.length : Int)) then ((at? s3 (wr ((s3.length : Int) - 1))).bind fun (x7 : UInt8) => strings_trimRightByte_J3 s3 (decide ((x7.toNat : Int) = c2))) else (strings_trimRightByte_J3 s3 false)
noncomputable def m_strings_trimRightByte (s1 : Bs) (c2 : Int) : Option (Bs) :=
  iter (fun (s : Bs) => strings_trimRightByte_L2 c2 s) s1
noncomputable def strings_trimLeftByte_J1 (s14 : Bs) : Option (Bs) :=
  some s14
noncomputable def strings_trimLeftByte_J3 (s3 : Bs) (v10 : Bool) : Option (Bs ⊕ (Bs)) :=
  if v10 then ((sub? s3 1 (s3.length : Int)).bind fun (l12 : Bs) => some (.inl l12)) else (Option.map .inr (strings_trimLeftByte_J1 s3))
noncomputable def strings_trimLeftByte_L2 (c2 : Int) (s3 : Bs) : Option (Bs ⊕ (Bs)) :=
  if decide (0 < (s3.length : Int)) then ((s3[0]?).bind fun (x7 : UInt8) => strings_trimLeftByte_J3 s3 (decide ((x7.toNat : Int) = c2))) else (strings_trimLeftByte_J3 s3 false)
noncomputable def m_strings_trimLeftByte (s1 : Bs) (c2 : Int) : Option (Bs) :=
  iter (fun (s : Bs) => strings_trimLeftByte_L2 c2 s) s1
noncomputable def strings_Trim_J1 (s1 : Bs) (cutset2 : Bs) (v9 : Bool) : Option (Bs) :=
  if v9 then ((cutset2[0]?).bind fun (x11 : UInt8) => (m_strings_trimRightByte s1 (x11.toNat : Int)).bind fun (r13 : (Bs)) => (m_strings_trimLeftByte r13 (x11.toNat : Int)).bind fun (r15 : (Bs)) => some r15) else none
noncomputable def m_strings_Trim (s1 : Bs) (cutset2 : Bs) : Option (Bs) :=
  if ((decide (s1 = [])) || (decide (cutset2 = []))) then some s1 else (if decide ((cutset2.length : Int) = 1) then ((cutset2[0]?).bind fun (x6 : UInt8) => strings_Trim_J1 s1 cutset2 (decide ((x6.toNat : Int) < 128))) else (strings_Trim_J1 s1 cutset2 false))
noncomputable def message_IsField_J1 (v12 : Bool) : Option (Bool) :=
  some v12
noncomputable def m_message_IsField (s1 : Bs) : Option (Bool) :=
  if decide ((s1.length : Int) ≤ 2000) then ((m_message_isRange s1 32 126).bind fun (r4 : (Bool)) => if r4 then ((m_strings_Trim s1 [32]).bind fun (r8 : (Bs)) => message_IsField_J1 (decide (r8 = s1))) else (message_IsField_J1 false)) else (message_IsField_J1 false)
noncomputable def message_CheckHeaders_L1 (k3 : Nat) (x6 : S_api_Header) : Option (Unit ⊕ (Int)) :=
  (m_message_IsToken x6.Name).bind fun (r9 : (Bool)) => if !r9 then (some (.inr 5)) else ((m_message_IsField x6.Value).bind fun (r12 : (Bool)) => if !r12 then (some (.inr 3)) else (some (.inl ())))
noncomputable def message_CheckHeaders_E1 : Option (Int) :=
  some 0
noncomputable def m_message_CheckHeaders (l1 : (List S_api_Header)) : Option (Int) :=
  if decide (50 < (l1.length : Int)) then some 2 else (if l1.length ≤ 1000000000 then forL (fun (k : Nat) (x : S_api_Header) (s : Unit) => message_CheckHeaders_L1 k x) (fun (s : Unit) => message_CheckHeaders_E1) 0 l1 () else none)
noncomputable def m_cache_numbers  : Option ((List Bs) × (List Int)) :=
  some ([[109, 97, 120, 45, 97, 103, 101], [115, 45, 109, 97, 120, 97, 103, 101], [115, 116, 97, 108, 101, 45, 119, 104, 105, 108, 101, 45, 114, 101, 118, 97, 108, 105, 100, 97, 116, 101], [115, 116, 97, 108, 101, 45, 105, 102, 45, 101, 114, 114, 111, 114], [109, 97, 120, 45, 115, 116, 97, 108, 101], [109, 105, 110, 45, 102, 114, 101, 115, 104]], ([6, 7, 8, 9, 10, 11] : List Int))
noncomputable def m_message_isNamed (h1 : S_api_Header) (name2 : Bs) : Option (Bool) :=
  (m_strings_EqualFold h1.Name name2).bind fun (r3 : (Bool)) => some r3
noncomputable def message_Values_J2 (out14 : (List Bs)) : Option ((List Bs) ⊕ ((List Bs))) :=
  some (.inl out14)
noncomputable def message_Values_L1 (name2 : Bs) (k4 : Nat) (x7 : S_api_Header) (l3 : (List Bs)) : Option ((List Bs) ⊕ ((List Bs))) :=
  (m_message_isNamed x7 name2).bind fun (r10 : (Bool)) => if r10 then (if l3.length + 1 ≤ 1000000000 then (message_Values_J2 (l3 ++ [x7.Value])) else none) else (message_Values_J2 l3)
noncomputable def message_Values_E1 (l3 : (List Bs)) : Option ((List Bs)) :=
  some l3
noncomputable def m_message_Values (l1 : (List S_api_Header)) (name2 : Bs) : Option ((List Bs)) :=
  if l1.length ≤ 1000000000 then forL (fun (k : Nat) (x : S_api_Header) (s : (List Bs)) => message_Values_L1 name2 k x s) (fun (s : (List Bs)) => message_Values_E1 s) 0 l1 [] else none
noncomputable def message_Parts_J3 (out22 : (List Bs)) : Option ((List Bs) ⊕ ((List Bs) ⊕ ((List Bs)))) :=
  some (.inl out22)
noncomputable def message_Parts_L2 (k12 : Nat) (x15 : Bs) (l11 : (List Bs)) : Option ((List Bs) ⊕ ((List Bs) ⊕ ((List Bs)))) :=
  (m_strings_Trim x15 [32]).bind fun (r18 : (Bs)) => if decide (r18 ≠ []) then (if l11.length + 1 ≤ 1000000000 then (message_Parts_J3 (l11 ++ [r18])) else none) else (message_Parts_J3 l11)
noncomputable def message_Parts_E2 (l11 : (List Bs)) : Option ((List Bs) ⊕ ((List Bs))) :=
  some (.inl l11)
noncomputable def message_Parts_L1 (k3 : Nat) (x6 : Bs) (l2 : (List Bs)) : Option ((List Bs) ⊕ ((List Bs))) :=
  (m_strings_Split x6 [44]).bind fun (r9 : ((List Bs))) => if r9.length ≤ 1000000000 then forL (fun (k : Nat) (x : Bs) (s : (List Bs)) => message_Parts_L2 k x s) (fun (s : (List Bs)) => message_Parts_E2 s) 0 r9 l2 else none
noncomputable def message_Parts_E1 (l2 : (List Bs)) : Option ((List Bs)) :=
  some l2
noncomputable def m_message_Parts (values1 : (List Bs)) : Option ((List Bs)) :=
  if values1.length ≤ 1000000000 then forL (fun (k : Nat) (x : Bs) (s : (List Bs)) => message_Parts_L1 k x s) (fun (s : (List Bs)) => message_Parts_E1 s) 0 values1 [] else none
noncomputable def m_internal_strconv_lower (c1 : Int) : Option (Int) :=
  some (or_ .u8 c1 32)
noncomputable def internal_strconv_underscoreOK_J7 (v47 : Int) (v85 : Int) : Option ((Int × Int) ⊕ (Bool)) :=
  some (.inl (v85, wr (v47 + 1)))
noncomputable def internal_strconv_underscoreOK_J8 (v14 : Bs) (v46 : Int) (v47 : Int) (v78 : Bool) : Option ((Int × Int) ⊕ (Bool)) :=
  if v78 then (internal_strconv_underscoreOK_J7 v47 48) else ((at? v14 v47).bind fun (x80 : UInt8) => if decide ((x80.toNat : Int) = 95) then (if decide (v46 ≠ 48) then (some (.inr false)) else (internal_strconv_underscoreOK_J7 v47 95)) else (if decide (v46 = 95) then (some (.inr false)) else (internal_strconv_underscoreOK_J7 v47 33)))
noncomputable def internal_strconv_underscoreOK_J5 (v86 : Int) : Option (Bool) :=
  some (decide (v86 ≠ 95))
noncomputable def internal_strconv_underscoreOK_L6 (v14 : Bs) (v45 : Bool) (v46 : Int) (v47 : Int) : Option ((Int × Int) ⊕ (Bool)) :=
  if decide (v47 < (v14.length : Int)) then ((at? v14 v47).bind fun (x50 : UInt8) => if decide (48 ≤ (x50.toNat : Int)) then (if decide ((x50.toNat : Int) ≤ 57) then (internal_strconv_underscoreOK_J8 v14 v46 v47 true) else (if v45 then ((m_internal_strconv_lower (x50.toNat : Int)).bind fun (r58 : (Int)) => if decide (97 ≤ r58) then ((m_internal_strconv_lower (x50.toNat : Int)).bind fun (r62 : (Int)) => internal_strconv_underscoreOK_J8 v14 v46 v47 (decide (r62 ≤ 102))) else (internal_strconv_underscoreOK_J8 v14 v46 v47 false)) else (internal_strconv_underscoreOK_J8 v14 v46 v47 false))) else (if v45 then ((m_internal_strconv_lower (x50.toNat : Int)).bind fun (r70 : (Int)) => if decide (97 ≤ r70) then ((m_internal_strconv_lower (x50.toNat : Int)).bind fun (r74 : (Int)) => internal_strconv_underscoreOK_J8 v14 v46 v47 (decide (r74 ≤ 102))) else (internal_strconv_underscoreOK_J8 v14 v46 v47 false)) else (internal_strconv_underscoreOK_J8 v14 v46 v47 false))) else (Option.map .inr (internal_strconv_underscoreOK_J5 v46))
noncomputable def internal_strconv_underscoreOK_J3 (v14 : Bs) (v43 : Int) (v44 : Int) (v45 : Bool) : Option (Bool) :=
  iter (fun (s : Int × Int) => internal_strconv_underscoreOK_L6 v14 v45 s.1 s.2) (v43, v44)
noncomputable def internal_strconv_underscoreOK_J4 (v14 : Bs) (v37 : Bool) : Option (Bool) :=
  if v37 then ((v14[1]?).bind fun (x39 : UInt8) => (m_internal_strconv_lower (x39.toNat : Int)).bind fun (r41 : (Int)) => internal_strconv_underscoreOK_J3 v14 48 2 (decide (r41 = 120))) else (internal_strconv_underscoreOK_J3 v14 94 0 false)
noncomputable def internal_strconv_underscoreOK_J1 (v14 : Bs) : Option (Bool) :=
  if decide (2 ≤ (v14.length : Int)) then ((v14[0]?).bind fun (x17 : UInt8) => if decide ((x17.toNat : Int) = 48) then ((v14[1]?).bind fun (x21 : UInt8) => (m_internal_strconv_lower (x21.toNat : Int)).bind fun (r23 : (Int)) => if decide (r23 = 98) then (internal_strconv_underscoreOK_J4 v14 true) else ((m_internal_strconv_lower (x21.toNat : Int)).bind fun (r27 : (Int)) => if decide (r27 = 111) then (internal_strconv_underscoreOK_J4 v14 true) else ((m_internal_strconv_lower (x21.toNat : Int)).bind fun (r31 : (Int)) => internal_strconv_underscoreOK_J4 v14 (decide (r31 = 120))))) else (internal_strconv_underscoreOK_J4 v14 false)) else (internal_strconv_underscoreOK_J4 v14 false)
noncomputable def internal_strconv_underscoreOK_J2 (v1 : Bs) (v10 : Bool) : Option (Bool) :=
  if v10 then ((sub? v1 1 (v1.length : Int)).bind fun (l12 : Bs) => internal_strconv_underscoreOK_J1 l12) else (internal_strconv_underscoreOK_J1 v1)
noncomputable def m_internal_strconv_underscoreOK (v1 : Bs) : Option (Bool) :=
  if decide (1 ≤ (v1.length : Int)) then ((v1[0]?).bind fun (x4 : UInt8) => if decide ((x4.toNat : Int) = 45) then (internal_strconv_underscoreOK_J2 v1 true) else (internal_strconv_underscoreOK_J2 v1 (decide ((x4.toNat : Int) = 43)))) else (internal_strconv_underscoreOK_J2 v1 false)
noncomputable def internal_strconv_ParseUint_J9 (v87 : Bool) (v88 : Int) : Option ((Bool × Int) ⊕ (Int × Int)) :=
  some (.inl (v87, v88))
noncomputable def internal_strconv_ParseUint_J10 (v46 : Int) (v49 : Int) (v53 : Int) (v55 : Bool) (v56 : Int) (v83 : Int) : Option ((Bool × Int) ⊕ (Int × Int)) :=
  if decide ((IntKind.wrap .u8 v46) ≤ v83) then (some (.inr (0, 2))) else (if decide (v53 ≤ v56) then (some (.inr (IntKind.wrap .u64 ((shl_ .u64 1 (IntKind.wrap .u64 v49)) - 1), 1))) else (if ((decide ((IntKind.wrap .u64 ((IntKind.wrap .u64 (v56 * (IntKind.wrap .u64 v46))) + (IntKind.wrap .u64 v83))) < (IntKind.wrap .u64 (v56 * (IntKind.wrap .u64 v46))))) || (decide ((IntKind.wrap .u64 ((shl_ .u64 1 (IntKind.wrap .u64 v49)) - 1)) < (IntKind.wrap .u64 ((IntKind.wrap .u64 (v56 * (IntKind.wrap .u64 v46))) + (IntKind.wrap .u64 v83)))))) then (some (.inr (IntKind.wrap .u64 ((shl_ .u64 1 (IntKind.wrap .u64 v49)) - 1), 1))) else (internal_strconv_ParseUint_J9 v55 (IntKind.wrap .u64 ((IntKind.wrap .u64 (v56 * (IntKind.wrap .u64 v46))) + (IntKind.wrap .u64 v83))))))
noncomputable def internal_strconv_ParseUint_J11 (v46 : Int) (v49 : Int) (v53 : Int) (v55 : Bool) (v56 : Int) (x60 : Int) (v79 : Bool) : Option ((Bool × Int) ⊕ (Int × Int)) :=
  if v79 then ((m_internal_strconv_lower x60).bind fun (r81 : (Int)) => internal_strconv_ParseUint_J10 v46 v49 v53 v55 v56 (IntKind.wrap .u8 ((IntKind.wrap .u8 (r81 - 97)) + 10))) else (some (.inr (0, 2)))
noncomputable def internal_strconv_ParseUint_L7 (v2 : Int) (v46 : Int) (v49 : Int) (v53 : Int) (k57 : Nat) (x60 : Int) (v55 : Bool) (v56 : Int) : Option ((Bool × Int) ⊕ (Int × Int)) :=
  if ((decide (x60 = 95)) && (decide (v2 = 0))) then (internal_strconv_ParseUint_J9 true v56) else (if ((decide (48 ≤ x60)) && (decide (x60 ≤ 57))) then (internal_strconv_ParseUint_J10 v46 v49 v53 v55 v56 (IntKind.wrap .u8 (x60 - 48))) else ((m_internal_strconv_lower x60).bind fun (r72 : (Int)) => if decide (97 ≤ r72) then ((m_internal_strconv_lower x60).bind fun (r76 : (Int)) => internal_strconv_ParseUint_J11 v46 v49 v53 v55 v56 x60 (decide (r76 ≤ 122))) else (internal_strconv_ParseUint_J11 v46 v49 v53 v55 v56 x60 false)))
noncomputable def internal_strconv_ParseUint_J8 (v56 : Int) (v66 : Bool) : Option (Int × Int) :=
  if v66 then (some (0, 2)) else (some (v56, 0))
noncomputable def internal_strconv_ParseUint_E7 (v1 : Bs) (v55 : Bool) (v56 : Int) : Option (Int × Int) :=
  if v55 then ((m_internal_strconv_underscoreOK v1).bind fun (r63 : (Bool)) => internal_strconv_ParseUint_J8 v56 (!r63)) else (internal_strconv_ParseUint_J8 v56 false)
noncomputable def internal_strconv_ParseUint_J6 (v1 : Bs) (v2 : Int) (v45 : Bs) (v46 : Int) (v49 : Int) (v53 : Int) : Option (Int × Int) :=
  if (0 : Int) ≤ (IntKind.wrap .u64 v49) then (if (numsB v45).length ≤ 1000000000 then forL (fun (k : Nat) (x : Int) (s : Bool × Int) => internal_strconv_ParseUint_L7 v2 v46 v49 v53 k x s.1 s.2) (fun (s : Bool × Int) => internal_strconv_ParseUint_E7 v1 s.1 s.2) 0 (numsB v45) (false, 0) else none) else none
noncomputable def internal_strconv_ParseUint_J5 (v1 : Bs) (v2 : Int) (v45 : Bs) (v46 : Int) (v49 : Int) : Option (Int × Int) :=
  if decide (v46 = 10) then (internal_strconv_ParseUint_J6 v1 v2 v45 v46 v49 1844674407370955162) else (if decide (v46 = 16) then (internal_strconv_ParseUint_J6 v1 v2 v45 v46 v49 1152921504606846976) else (if (IntKind.wrap .u64 v46) ≠ 0 then (internal_strconv_ParseUint_J6 v1 v2 v45 v46 v49 (IntKind.wrap .u64 ((IntKind.wrap .u64 (Int.tdiv 18446744073709551615 (IntKind.wrap .u64 v46))) + 1))) else none))
noncomputable def internal_strconv_ParseUint_J1 (v1 : Bs) (v2 : Int) (v3 : Int) (v45 : Bs) (v46 : Int) : Option (Int × Int) :=
  if decide (v3 = 0) then (internal_strconv_ParseUint_J5 v1 v2 v45 v46 64) else (if ((decide (v3 < 0)) || (decide (64 < v3))) then (some (0, 4)) else (internal_strconv_ParseUint_J5 v1 v2 v45 v46 v3))
noncomputable def internal_strconv_ParseUint_J4 (v1 : Bs) (v2 : Int) (v3 : Int) (v39 : Bool) : Option (Int × Int) :=
  if v39 then ((sub? v1 2 (v1.length : Int)).bind fun (l41 : Bs) => internal_strconv_ParseUint_J1 v1 v2 v3 l41 16) else ((sub? v1 1 (v1.length : Int)).bind fun (l43 : Bs) => internal_strconv_ParseUint_J1 v1 v2 v3 l43 8)
noncomputable def internal_strconv_ParseUint_J3 (v1 : Bs) (v2 : Int) (v3 : Int) (v28 : Bool) : Option (Int × Int) :=
  if v28 then ((sub? v1 2 (v1.length : Int)).bind fun (l30 : Bs) => internal_strconv_ParseUint_J1 v1 v2 v3 l30 8) else (if decide (3 ≤ (v1.length : Int)) then ((v1[1]?).bind fun (x34 : UInt8) => (m_internal_strconv_lower (x34.toNat : Int)).bind fun (r36 : (Int)) => internal_strconv_ParseUint_J4 v1 v2 v3 (decide (r36 = 120))) else (internal_strconv_ParseUint_J4 v1 v2 v3 false))
noncomputable def internal_strconv_ParseUint_J2 (v1 : Bs) (v2 : Int) (v3 : Int) (v17 : Bool) : Option (Int × Int) :=
  if v17 then ((sub? v1 2 (v1.length : Int)).bind fun (l19 : Bs) => internal_strconv_ParseUint_J1 v1 v2 v3 l19 2) else (if decide (3 ≤ (v1.length : Int)) then ((v1[1]?).bind fun (x23 : UInt8) => (m_internal_strconv_lower (x23.toNat : Int)).bind fun (r25 : (Int)) => internal_strconv_ParseUint_J3 v1 v2 v3 (decide (r25 = 111))) else (internal_strconv_ParseUint_J3 v1 v2 v3 false))
noncomputable def m_internal_strconv_ParseUint (v1 : Bs) (v2 : Int) (v3 : Int) : Option (Int × Int) :=
  if decide (v1 = []) then (some (0, 2)) else (if ((decide (2 ≤ v2)) && (decide (v2 ≤ 36))) then (internal_strconv_ParseUint_J1 v1 v2 v3 v1 v2) else (if decide (v2 = 0) then ((v1[0]?).bind fun (x7 : UInt8) => if decide ((x7.toNat : Int) = 48) then (if decide (3 ≤ (v1.length : Int)) then ((v1[1]?).bind fun (x12 : UInt8) => (m_internal_strconv_lower (x12.toNat : Int)).bind fun (r14 : (Int)) => internal_strconv_ParseUint_J2 v1 v2 v3 (decide (r14 = 98))) else (internal_strconv_ParseUint_J2 v1 v2 v3 false)) else (internal_strconv_ParseUint_J1 v1 v2 v3 v1 10)) else (some (0, 3))))
noncomputable def internal_strconv_ParseInt_J4 (v31 : Int) : Option (Int × Int) :=
  some (v31, 0)
noncomputable def internal_strconv_ParseInt_J3 (v14 : Bool) (r15 : (Int × Int)) (v24 : Int) : Option (Int × Int) :=
  if (0 : Int) ≤ (IntKind.wrap .u64 (wr (v24 - 1))) then (if ((!v14) && (decide ((shl_ .u64 1 (IntKind.wrap .u64 (wr (v24 - 1)))) ≤ r15.1))) then (some (IntKind.wrap .i64 (IntKind.wrap .u64 ((shl_ .u64 1 (IntKind.wrap .u64 (wr (v24 - 1)))) - 1)), 1)) else (if (v14 && (decide ((shl_ .u64 1 (IntKind.wrap .u64 (wr (v24 - 1)))) < r15.1))) then (if -9223372036854775807 ≤ IntKind.wrap .i64 (shl_ .u64 1 (IntKind.wrap .u64 (wr (v24 - 1)))) ∧ IntKind.wrap .i64 (shl_ .u64 1 (IntKind.wrap .u64 (wr (v24 - 1)))) ≤ 9223372036854775807 then (some ((-(IntKind.wrap .i64 (shl_ .u64 1 (IntKind.wrap .u64 (wr (v24 - 1)))))), 1)) else none) else (if v14 then (if -9223372036854775807 ≤ IntKind.wrap .i64 r15.1 ∧ IntKind.wrap .i64 r15.1 ≤ 9223372036854775807 then (internal_strconv_ParseInt_J4 (-(IntKind.wrap .i64 r15.1))) else none) else (internal_strconv_ParseInt_J4 (IntKind.wrap .i64 r15.1))))) else none
noncomputable def internal_strconv_ParseInt_J2 (v3 : Int) (v14 : Bool) (r15 : (Int × Int)) (v21 : Bool) : Option (Int × Int) :=
  if v21 then (some (0, r15.2)) else (if decide (v3 = 0) then (internal_strconv_ParseInt_J3 v14 r15 64) else (internal_strconv_ParseInt_J3 v14 r15 v3))
noncomputable def internal_strconv_ParseInt_J1 (v2 : Int) (v3 : Int) (v13 : Bs) (v14 : Bool) : Option (Int × Int) :=
  (m_internal_strconv_ParseUint v13 v2 v3).bind fun (r15 : (Int × Int)) => if decide (r15.2 ≠ 0) then (if (0 : Int) ≤ r15.2 ∧ r15.2 ≤ (4 : Int) then (internal_strconv_ParseInt_J2 v3 v14 r15 (decide (r15.2 ≠ 1))) else none) else (internal_strconv_ParseInt_J2 v3 v14 r15 false)
noncomputable def m_internal_strconv_ParseInt (v1 : Bs) (v2 : Int) (v3 : Int) : Option (Int × Int) :=
  if decide (v1 = []) then (some (0, 2)) else ((v1[0]?).bind fun (x5 : UInt8) => if decide ((x5.toNat : Int) = 43) then ((sub? v1 1 (v1.length : Int)).bind fun (l8 : Bs) => internal_strconv_ParseInt_J1 v2 v3 l8 false) else (if decide ((x5.toNat : Int) = 45) then ((sub? v1 1 (v1.length : Int)).bind fun (l11 : Bs) => internal_strconv_ParseInt_J1 v2 v3 l11 true) else (internal_strconv_ParseInt_J1 v2 v3 v1 false)))
noncomputable def internal_strconv_Atoi_L3 (k15 : Nat) (x18 : Int) (v14 : Int) : Option (Int ⊕ (Int × Int)) :=
  if decide (9 < (IntKind.wrap .u8 (x18 - 48))) then (some (.inr (0, 2))) else (some (.inl (wr ((wr (v14 * 10)) + (IntKind.wrap .i64 (IntKind.wrap .u8 (x18 - 48)))))))
noncomputable def internal_strconv_Atoi_J4 (v23 : Int) : Option (Int × Int) :=
  some (v23, 0)
noncomputable def internal_strconv_Atoi_E3 (v1 : Bs) (v14 : Int) : Option (Int × Int) :=
  (v1[0]?).bind fun (x19 : UInt8) => if decide ((x19.toNat : Int) = 45) then (if -9223372036854775807 ≤ v14 ∧ v14 ≤ 9223372036854775807 then (internal_strconv_Atoi_J4 (-v14)) else none) else (internal_strconv_Atoi_J4 v14)
noncomputable def internal_strconv_Atoi_J1 (v1 : Bs) (v13 : Bs) : Option (Int × Int) :=
  if (numsB v13).length ≤ 1000000000 then forL (fun (k : Nat) (x : Int) (s : Int) => internal_strconv_Atoi_L3 k x s) (fun (s : Int) => internal_strconv_Atoi_E3 v1 s) 0 (numsB v13) 0 else none
noncomputable def internal_strconv_Atoi_J2 (v1 : Bs) (v8 : Bool) : Option (Int × Int) :=
  if v8 then ((sub? v1 1 (v1.length : Int)).bind fun (l10 : Bs) => if decide ((l10.length : Int) < 1) then (some (0, 2)) else (internal_strconv_Atoi_J1 v1 l10)) else (internal_strconv_Atoi_J1 v1 v1)
noncomputable def m_internal_strconv_Atoi (v1 : Bs) : Option (Int × Int) :=
  if ((false && ((decide (0 < (v1.length : Int))) && (decide ((v1.length : Int) < 10)))) || (true && ((decide (0 < (v1.length : Int))) && (decide ((v1.length : Int) < 19))))) then ((v1[0]?).bind fun (x3 : UInt8) => if decide ((x3.toNat : Int) = 45) then (internal_strconv_Atoi_J2 v1 true) else (internal_strconv_Atoi_J2 v1 (decide ((x3.toNat : Int) = 43)))) else ((m_internal_strconv_ParseInt v1 10 0).bind fun (r27 : (Int × Int)) => some (r27.1, r27.2))
noncomputable def m_strconv_Atoi (s1 : Bs) : Option (Int × Int) :=
  (m_internal_strconv_Atoi s1).bind fun (r2 : (Int × Int)) => if decide (r2.2 ≠ 0) then ((m_strconv_toError [65, 116, 111, 105] s1 0 0 r2.2).bind fun (r5 : (Int)) => some (r2.1, r5)) else (some (r2.1, 0))
noncomputable def kit_Number_J3 (v29 : Bool) : Option (Unit ⊕ (Int × Bool)) :=
  if v29 then (some (.inr (0, false))) else (some (.inl ()))
noncomputable def kit_Number_L2 (i18 : Nat) (x21 : UInt8) : Option (Unit ⊕ (Int × Bool)) :=
  if decide ((x21.toNat : Int) < 48) then (kit_Number_J3 true) else (kit_Number_J3 (decide (57 < (x21.toNat : Int))))
noncomputable def kit_Number_E2 (s1 : Bs) : Option (Int × Bool) :=
  (m_strconv_Atoi s1).bind fun (r22 : (Int × Int)) => some (r22.1, decide (r22.2 = 0))
noncomputable def kit_Number_J1 (s1 : Bs) (r3 : (Bs)) (v16 : Bool) : Option (Int × Bool) :=
  if v16 then (some (0, false)) else (if r3.length ≤ 1000000000 then forL (fun (k : Nat) (x : UInt8) (s : Unit) => kit_Number_L2 k x) (fun (s : Unit) => kit_Number_E2 s1) 0 r3 () else none)
noncomputable def m_kit_Number (s1 : Bs) (most2 : Int) : Option (Int × Bool) :=
  (m_strings_TrimPrefix s1 [45]).bind fun (r3 : (Bs)) => if decide (r3 = []) then (kit_Number_J1 s1 r3 true) else (if decide (most2 < (r3.length : Int)) then (kit_Number_J1 s1 r3 true) else ((r3[0]?).bind fun (x9 : UInt8) => if decide ((x9.toNat : Int) = 48) then (kit_Number_J1 s1 r3 (decide (s1 ≠ [48]))) else (kit_Number_J1 s1 r3 false)))
noncomputable def m_kit_Small (s1 : Bs) : Option (Int × Bool) :=
  (m_kit_Number s1 9).bind fun (r2 : (Int × Bool)) => some (r2.1, r2.2)
noncomputable def m_kit_Outside (n1 : Int) (low2 : Int) (high3 : Int) : Option (Bool) :=
  some ((decide (n1 < low2)) || (decide (high3 < n1)))
noncomputable def cache_seconds_J1 (r2 : (Int × Bool)) (v9 : Bool) : Option (Int × Bool) :=
  some (r2.1, v9)
noncomputable def m_cache_seconds (s1 : Bs) : Option (Int × Bool) :=
  (m_kit_Small s1).bind fun (r2 : (Int × Bool)) => if r2.2 then ((m_kit_Outside r2.1 0 100000000).bind fun (r6 : (Bool)) => cache_seconds_J1 r2 (!r6)) else (cache_seconds_J1 r2 false)
noncomputable def m_cache_flags  : Option ((List Bs) × (List Int)) :=
  some ([[110, 111, 45, 115, 116, 111, 114, 101], [110, 111, 45, 99, 97, 99, 104, 101], [112, 114, 105, 118, 97, 116, 101], [112, 117, 98, 108, 105, 99], [109, 117, 115, 116, 45, 114, 101, 118, 97, 108, 105, 100, 97, 116, 101], [111, 110, 108, 121, 45, 105, 102, 45, 99, 97, 99, 104, 101, 100]], ([0, 1, 2, 3, 4, 5] : List Int))
noncomputable def slices_Index_L_string_string__L1 (v2 : Bs) (k3 : Nat) (x6 : Bs) : Option (Unit ⊕ (Int)) :=
  if decide (v2 = x6) then (some (.inr (k3 : Int))) else (some (.inl ()))
noncomputable def slices_Index_L_string_string__E1 : Option (Int) :=
  some (-1)
noncomputable def m_slices_Index_L_string_string_ (s1 : (List Bs)) (v2 : Bs) : Option (Int) :=
  if s1.length ≤ 1000000000 then forL (fun (k : Nat) (x : Bs) (s : Unit) => slices_Index_L_string_string__L1 v2 k x) (fun (s : Unit) => slices_Index_L_string_string__E1) 0 s1 () else none
noncomputable def cache_told_J1 (r3 : (Bs × Bs × Bool)) (c41 : Bool) (c42 : Bool) (c43 : Bool) (c44 : Bool) (c45 : Bool) (c46 : Bool) (c47 : Int) (c48 : Int) (c49 : Int) (c50 : Int) (c51 : Int) (c52 : Int) : Option (Bool × S_api_Control) :=
  some (r3.2.2, (S_api_Control.mk c41 c42 c43 c44 c45 c46 c47 c48 c49 c50 c51 c52))
noncomputable def cache_told_J2 (s1 : S_api_Control) (r3 : (Bs × Bs × Bool)) (r5 : (Int × Bool)) (r22 : ((List Bs) × (List Int))) (r24 : (Int)) (v34 : Bool) : Option (Bool × S_api_Control) :=
  if v34 then ((at? r22.2 r24).bind fun (x36 : Int) => if ck_S_api_Control_int x36 = true then ((some (st_S_api_Control_int s1 x36 r5.1)).bind fun (c39 : S_api_Control) => cache_told_J1 r3 c39.NoStore c39.NoCache c39.Private c39.Public c39.Must c39.Only c39.MaxAge c39.Shared c39.Stale c39.OnError c39.MaxStale c39.MinFresh) else none) else (cache_told_J1 r3 s1.NoStore s1.NoCache s1.Private s1.Public s1.Must s1.Only s1.MaxAge s1.Shared s1.Stale s1.OnError s1.MaxStale s1.MinFresh)
noncomputable def m_cache_told (s1 : S_api_Control) (v2 : Bs) : Option (Bool × S_api_Control) :=
  (m_strings_Cut v2 [61]).bind fun (r3 : (Bs × Bs × Bool)) => (m_cache_seconds r3.2.1).bind fun (r5 : (Int × Bool)) => (m_message_IsToken r3.1).bind fun (r7 : (Bool)) => if ((!r7) || (r3.2.2 && (!r5.2))) then (some (false, s1)) else ((m_strings_ToLower r3.1).bind fun (r10 : (Bs)) => (m_cache_flags).bind fun (r12 : ((List Bs) × (List Int))) => (m_slices_Index_L_string_string_ r12.1 r10).bind fun (r14 : (Int)) => if decide (0 ≤ r14) then ((at? r12.2 r14).bind fun (x17 : Int) => if ck_S_api_Control_bool x17 = true then ((some (st_S_api_Control_bool s1 x17 true)).bind fun (c20 : S_api_Control) => some (!r3.2.2, c20)) else none) else ((m_cache_numbers).bind fun (r22 : ((List Bs) × (List Int))) => (m_slices_Index_L_string_string_ r22.1 r10).bind fun (r24 : (Int)) => if decide (r24 < 0) then (some (true, s1)) else ((at? r22.2 r24).bind fun (x27 : Int) => if ck_S_api_Control_int x27 = true then (if decide ((gt_S_api_Control_int s1 x27) = (-1)) then (cache_told_J2 s1 r3 r5 r22 r24 true) else (if ck_S_api_Control_int x27 = true then (cache_told_J2 s1 r3 r5 r22 r24 (decide (r5.1 < (gt_S_api_Control_int s1 x27)))) else none)) else none)))
noncomputable def cache_parse_L2 (k36 : Nat) (x39 : Bs) (c24 : Bool) (c25 : Bool) (c26 : Int) (c27 : Int) (c28 : Bool) (c29 : Bool) (c30 : Bool) (c31 : Bool) (c32 : Int) (c33 : Int) (c34 : Int) (c35 : Int) : Option ((Bool × Bool × Int × Int × Bool × Bool × Bool × Bool × Int × Int × Int × Int) ⊕ (S_api_Control × Int)) :=
  (m_cache_told (S_api_Control.mk c24 c25 c28 c29 c30 c31 c32 c33 c34 c35 c26 c27) x39).bind fun (r42 : (Bool × S_api_Control)) => if !r42.1 then (some (.inr ((S_api_Control.mk false false false false false false 0 0 0 0 0 0), 9))) else (some (.inl (r42.2.NoStore, r42.2.NoCache, r42.2.MaxStale, r42.2.MinFresh, r42.2.Private, r42.2.Public, r42.2.Must, r42.2.Only, r42.2.MaxAge, r42.2.Shared, r42.2.Stale, r42.2.OnError)))
noncomputable def cache_parse_E2 (c24 : Bool) (c25 : Bool) (c26 : Int) (c27 : Int) (c28 : Bool) (c29 : Bool) (c30 : Bool) (c31 : Bool) (c32 : Int) (c33 : Int) (c34 : Int) (c35 : Int) : Option (S_api_Control × Int) :=
  some ((S_api_Control.mk c24 c25 c28 c29 c30 c31 c32 c33 c34 c35 c26 c27), 0)
noncomputable def cache_parse_L1 (k16 : Nat) (x19 : Int) (c4 : Bool) (c5 : Bool) (c6 : Int) (c7 : Int) (c8 : Bool) (c9 : Bool) (c10 : Bool) (c11 : Bool) (c12 : Int) (c13 : Int) (c14 : Int) (c15 : Int) : Option ((Bool × Bool × Int × Int × Bool × Bool × Bool × Bool × Int × Int × Int × Int) ⊕ (S_api_Control × Int)) :=
  if ck_S_api_Control_int x19 = true then ((some (st_S_api_Control_int (S_api_Control.mk c4 c5 c8 c9 c10 c11 c12 c13 c14 c15 c6 c7) x19 (-1))).bind fun (c48 : S_api_Control) => some (.inl (c48.NoStore, c48.NoCache, c48.MaxStale, c48.MinFresh, c48.Private, c48.Public, c48.Must, c48.Only, c48.MaxAge, c48.Shared, c48.Stale, c48.OnError))) else none
noncomputable def cache_parse_E1 (l1 : (List S_api_Header)) (c4 : Bool) (c5 : Bool) (c6 : Int) (c7 : Int) (c8 : Bool) (c9 : Bool) (c10 : Bool) (c11 : Bool) (c12 : Int) (c13 : Int) (c14 : Int) (c15 : Int) : Option (S_api_Control × Int) :=
  (m_message_Values l1 [99, 97, 99, 104, 101, 45, 99, 111, 110, 116, 114, 111, 108]).bind fun (r20 : ((List Bs))) => (m_message_Parts r20).bind fun (r22 : ((List Bs))) => if r22.length ≤ 1000000000 then forL (fun (k : Nat) (x : Bs) (s : Bool × Bool × Int × Int × Bool × Bool × Bool × Bool × Int × Int × Int × Int) => cache_parse_L2 k x s.1 s.2.1 s.2.2.1 s.2.2.2.1 s.2.2.2.2.1 s.2.2.2.2.2.1 s.2.2.2.2.2.2.1 s.2.2.2.2.2.2.2.1 s.2.2.2.2.2.2.2.2.1 s.2.2.2.2.2.2.2.2.2.1 s.2.2.2.2.2.2.2.2.2.2.1 s.2.2.2.2.2.2.2.2.2.2.2) (fun (s : Bool × Bool × Int × Int × Bool × Bool × Bool × Bool × Int × Int × Int × Int) => cache_parse_E2 s.1 s.2.1 s.2.2.1 s.2.2.2.1 s.2.2.2.2.1 s.2.2.2.2.2.1 s.2.2.2.2.2.2.1 s.2.2.2.2.2.2.2.1 s.2.2.2.2.2.2.2.2.1 s.2.2.2.2.2.2.2.2.2.1 s.2.2.2.2.2.2.2.2.2.2.1 s.2.2.2.2.2.2.2.2.2.2.2) 0 r22 (c4, c5, c6, c7, c8, c9, c10, c11, c12, c13, c14, c15) else none
noncomputable def m_cache_parse (l1 : (List S_api_Header)) : Option (S_api_Control × Int) :=
  (m_cache_numbers).bind fun (r2 : ((List Bs) × (List Int))) => if r2.2.length ≤ 1000000000 then forL (fun (k : Nat) (x : Int) (s : Bool × Bool × Int × Int × Bool × Bool × Bool × Bool × Int × Int × Int × Int) => cache_parse_L1 k x s.1 s.2.1 s.2.2.1 s.2.2.2.1 s.2.2.2.2.1 s.2.2.2.2.2.1 s.2.2.2.2.2.2.1 s.2.2.2.2.2.2.2.1 s.2.2.2.2.2.2.2.2.1 s.2.2.2.2.2.2.2.2.2.1 s.2.2.2.2.2.2.2.2.2.2.1 s.2.2.2.2.2.2.2.2.2.2.2) (fun (s : Bool × Bool × Int × Int × Bool × Bool × Bool × Bool × Int × Int × Int × Int) => cache_parse_E1 l1 s.1 s.2.1 s.2.2.1 s.2.2.2.1 s.2.2.2.2.1 s.2.2.2.2.2.1 s.2.2.2.2.2.2.1 s.2.2.2.2.2.2.2.1 s.2.2.2.2.2.2.2.2.1 s.2.2.2.2.2.2.2.2.2.1 s.2.2.2.2.2.2.2.2.2.2.1 s.2.2.2.2.2.2.2.2.2.2.2) 0 r2.2 (false, false, 0, 0, false, false, false, false, 0, 0, 0, 0) else none
noncomputable def m_cache_Parse (l1 : (List S_api_Header)) : Option (S_api_Control × Int) :=
  (m_message_CheckHeaders l1).bind fun (r2 : (Int)) => if decide (r2 ≠ 0) then (some ((S_api_Control.mk false false false false false false 0 0 0 0 0 0), r2)) else ((m_cache_parse l1).bind fun (r5 : (S_api_Control × Int)) => some (r5.1, r5.2))
noncomputable def m_gateref2_in (n1 : Int) (low2 : Int) (high3 : Int) : Option (Bool) :=
  some ((decide (low2 ≤ n1)) && (decide (n1 ≤ high3)))
noncomputable def gateref2_only_L1 (some2 : Bs) (k3 : Nat) (x6 : UInt8) : Option (Unit ⊕ (Bool)) :=
  (m_strings_IndexByte some2 (x6.toNat : Int)).bind fun (r9 : (Int)) => if decide (r9 < 0) then (some (.inr false)) else (some (.inl ()))
noncomputable def gateref2_only_E1 : Option (Bool) :=
  some true
noncomputable def m_gateref2_only (s1 : Bs) (some2 : Bs) : Option (Bool) :=
  if s1.length ≤ 1000000000 then forL (fun (k : Nat) (x : UInt8) (s : Unit) => gateref2_only_L1 some2 k x) (fun (s : Unit) => gateref2_only_E1) 0 s1 () else none
noncomputable def gateref2_Token_J1 (v9 : Bool) : Option (Bool) :=
  some v9
noncomputable def m_gateref2_Token (s1 : Bs) : Option (Bool) :=
  (m_gateref2_in (s1.length : Int) 1 100).bind fun (r2 : (Bool)) => if r2 then ((m_gateref2_only s1 [97, 98, 99, 100, 101, 102, 103, 104, 105, 106, 107, 108, 109, 110, 111, 112, 113, 114, 115, 116, 117, 118, 119, 120, 121, 122, 65, 66, 67, 68, 69, 70, 71, 72, 73, 74, 75, 76, 77, 78, 79, 80, 81, 82, 83, 84, 85, 86, 87, 88, 89, 90, 48, 49, 50, 51, 52, 53, 54, 55, 56, 57, 33, 35, 36, 37, 38, 39, 42, 43, 45, 46, 94, 95, 96, 124, 126]).bind fun (r6 : (Bool)) => gateref2_Token_J1 r6) else (gateref2_Token_J1 false)
noncomputable def gateref2_visible_J2 (v12 : Bool) : Option (Unit ⊕ (Bool)) :=
  if v12 then (some (.inr false)) else (some (.inl ()))
noncomputable def gateref2_visible_L1 (low2 : Int) (k3 : Nat) (x6 : UInt8) : Option (Unit ⊕ (Bool)) :=
  if decide ((x6.toNat : Int) < low2) then (gateref2_visible_J2 true) else (gateref2_visible_J2 (decide (126 < (x6.toNat : Int))))
noncomputable def gateref2_visible_E1 : Option (Bool) :=
  some true
noncomputable def m_gateref2_visible (s1 : Bs) (low2 : Int) : Option (Bool) :=
  if s1.length ≤ 1000000000 then forL (fun (k : Nat) (x : UInt8) (s : Unit) => gateref2_visible_L1 low2 k x) (fun (s : Unit) => gateref2_visible_E1) 0 s1 () else none
noncomputable def gateref2_Field_J1 (v12 : Bool) : Option (Bool) :=
  some v12
noncomputable def m_gateref2_Field (s1 : Bs) : Option (Bool) :=
  if decide ((s1.length : Int) ≤ 2000) then ((m_gateref2_visible s1 32).bind fun (r4 : (Bool)) => if r4 then ((m_strings_Trim s1 [32]).bind fun (r8 : (Bs)) => gateref2_Field_J1 (decide (r8 = s1))) else (gateref2_Field_J1 false)) else (gateref2_Field_J1 false)
noncomputable def gateref2_HeadersFault_L1 (k3 : Nat) (x6 : S_api_Header) : Option (Unit ⊕ (Int)) :=
  (m_gateref2_Token x6.Name).bind fun (r9 : (Bool)) => if !r9 then (some (.inr 5)) else ((m_gateref2_Field x6.Value).bind fun (r12 : (Bool)) => if !r12 then (some (.inr 3)) else (some (.inl ())))
noncomputable def gateref2_HeadersFault_E1 : Option (Int) :=
  some 0
noncomputable def m_gateref2_HeadersFault (l1 : (List S_api_Header)) : Option (Int) :=
  if decide (50 < (l1.length : Int)) then some 2 else (if l1.length ≤ 1000000000 then forL (fun (k : Nat) (x : S_api_Header) (s : Unit) => gateref2_HeadersFault_L1 k x) (fun (s : Unit) => gateref2_HeadersFault_E1) 0 l1 () else none)
noncomputable def m_gateref2_countsOf  : Option ((List Int)) :=
  some ([6, 7, 8, 9, 10, 11] : List Int)
noncomputable def m_gateref2_alike (a1 : Bs) (b2 : Bs) : Option (Bool) :=
  (m_strings_ToLower a1).bind fun (r3 : (Bs)) => (m_strings_ToLower b2).bind fun (r5 : (Bs)) => some (decide (r3 = r5))
noncomputable def gateref2_Values_J2 (out14 : (List Bs)) : Option ((List Bs) ⊕ ((List Bs))) :=
  some (.inl out14)
noncomputable def gateref2_Values_L1 (name2 : Bs) (k4 : Nat) (x7 : S_api_Header) (l3 : (List Bs)) : Option ((List Bs) ⊕ ((List Bs))) :=
  (m_gateref2_alike x7.Name name2).bind fun (r10 : (Bool)) => if r10 then (if l3.length + 1 ≤ 1000000000 then (gateref2_Values_J2 (l3 ++ [x7.Value])) else none) else (gateref2_Values_J2 l3)
noncomputable def gateref2_Values_E1 (l3 : (List Bs)) : Option ((List Bs)) :=
  some l3
noncomputable def m_gateref2_Values (l1 : (List S_api_Header)) (name2 : Bs) : Option ((List Bs)) :=
  if l1.length ≤ 1000000000 then forL (fun (k : Nat) (x : S_api_Header) (s : (List Bs)) => gateref2_Values_L1 name2 k x s) (fun (s : (List Bs)) => gateref2_Values_E1 s) 0 l1 [] else none
noncomputable def gateref2_parts_J2 (out17 : (List Bs)) : Option ((List Bs) ⊕ ((List Bs))) :=
  some (.inl out17)
noncomputable def gateref2_parts_L1 (k7 : Nat) (x10 : Bs) (l6 : (List Bs)) : Option ((List Bs) ⊕ ((List Bs))) :=
  (m_strings_Trim x10 [32]).bind fun (r13 : (Bs)) => if decide (r13 ≠ []) then (if l6.length + 1 ≤ 1000000000 then (gateref2_parts_J2 (l6 ++ [r13])) else none) else (gateref2_parts_J2 l6)
noncomputable def gateref2_parts_E1 (l6 : (List Bs)) : Option ((List Bs)) :=
  some l6
noncomputable def m_gateref2_parts (values1 : (List Bs)) : Option ((List Bs)) :=
  (m_strings_Join values1 [44]).bind fun (r2 : (Bs)) => (m_strings_Split r2 [44]).bind fun (r4 : ((List Bs))) => if r4.length ≤ 1000000000 then forL (fun (k : Nat) (x : Bs) (s : (List Bs)) => gateref2_parts_L1 k x s) (fun (s : (List Bs)) => gateref2_parts_E1 s) 0 r4 [] else none
noncomputable def gateref2_Number_J2 (r15 : (Int × Int)) (v22 : Bool) : Option (Int × Bool) :=
  some (r15.1, v22)
noncomputable def gateref2_Number_J1 (s1 : Bs) (v13 : Bool) : Option (Int × Bool) :=
  if v13 then (some (0, false)) else ((m_strconv_Atoi s1).bind fun (r15 : (Int × Int)) => if decide (r15.2 = 0) then ((m_strconv_Itoa r15.1).bind fun (r19 : (Bs)) => gateref2_Number_J2 r15 (decide (r19 = s1))) else (gateref2_Number_J2 r15 false))
noncomputable def m_gateref2_Number (s1 : Bs) (most2 : Int) : Option (Int × Bool) :=
  (m_strings_TrimPrefix s1 [45]).bind fun (r3 : (Bs)) => if decide (r3 = []) then (gateref2_Number_J1 s1 true) else (if decide (most2 < (r3.length : Int)) then (gateref2_Number_J1 s1 true) else ((m_gateref2_only r3 [48, 49, 50, 51, 52, 53, 54, 55, 56, 57]).bind fun (r9 : (Bool)) => gateref2_Number_J1 s1 (!r9)))
noncomputable def m_gateref2_flagNames  : Option ((List Bs)) :=
  some ([[110, 111, 45, 115, 116, 111, 114, 101], [110, 111, 45, 99, 97, 99, 104, 101], [112, 114, 105, 118, 97, 116, 101], [112, 117, 98, 108, 105, 99], [109, 117, 115, 116, 45, 114, 101, 118, 97, 108, 105, 100, 97, 116, 101], [111, 110, 108, 121, 45, 105, 102, 45, 99, 97, 99, 104, 101, 100]])
noncomputable def m_gateref2_flagsOf  : Option ((List Int)) :=
  some ([0, 1, 2, 3, 4, 5] : List Int)
noncomputable def m_gateref2_countNames  : Option ((List Bs)) :=
  some ([[109, 97, 120, 45, 97, 103, 101], [115, 45, 109, 97, 120, 97, 103, 101], [115, 116, 97, 108, 101, 45, 119, 104, 105, 108, 101, 45, 114, 101, 118, 97, 108, 105, 100, 97, 116, 101], [115, 116, 97, 108, 101, 45, 105, 102, 45, 101, 114, 114, 111, 114], [109, 97, 120, 45, 115, 116, 97, 108, 101], [109, 105, 110, 45, 102, 114, 101, 115, 104]])
noncomputable def gateref2_ControlOf_J3 (c102 : Bool) (c103 : Bool) (c104 : Bool) (c105 : Bool) (c106 : Bool) (c107 : Bool) (c108 : Int) (c109 : Int) (c110 : Int) (c111 : Int) (c112 : Int) (c113 : Int) : Option ((Bool × Bool × Int × Int × Bool × Bool × Bool × Bool × Int × Int × Int × Int) ⊕ (S_api_Control × Int)) :=
  some (.inl (c102, c103, c112, c113, c104, c105, c106, c107, c108, c109, c110, c111))
noncomputable def gateref2_ControlOf_J5 (r42 : (Bs × Bs × Bool)) (r44 : (Int × Bool)) (r61 : (Bs)) (c76 : Bool) (c77 : Bool) (c78 : Bool) (c79 : Bool) (c80 : Bool) (c81 : Bool) (c82 : Int) (c83 : Int) (c84 : Int) (c85 : Int) (c86 : Int) (c87 : Int) : Option ((Bool × Bool × Int × Int × Bool × Bool × Bool × Bool × Int × Int × Int × Int) ⊕ (S_api_Control × Int)) :=
  (m_gateref2_countNames ).bind fun (r88 : ((List Bs))) => (m_slices_Index_L_string_string_ r88 r61).bind fun (r90 : (Int)) => if decide (0 ≤ r90) then (if !r42.2.2 then (some (.inr ((S_api_Control.mk false false false false false false 0 0 0 0 0 0), 9))) else ((m_gateref2_countsOf).bind fun (r94 : ((List Int))) => (at? r94 r90).bind fun (x96 : Int) => if ck_S_api_Control_int x96 = true then (if ((decide ((gt_S_api_Control_int (S_api_Control.mk c76 c77 c78 c79 c80 c81 c82 c83 c84 c85 c86 c87) x96) < 0)) || (decide (r44.1 < (gt_S_api_Control_int (S_api_Control.mk c76 c77 c78 c79 c80 c81 c82 c83 c84 c85 c86 c87) x96)))) then ((some (st_S_api_Control_int (S_api_Control.mk c76 c77 c78 c79 c80 c81 c82 c83 c84 c85 c86 c87) x96 r44.1)).bind fun (c100 : S_api_Control) => gateref2_ControlOf_J3 c100.NoStore c100.NoCache c100.Private c100.Public c100.Must c100.Only c100.MaxAge c100.Shared c100.Stale c100.OnError c100.MaxStale c100.MinFresh) else (gateref2_ControlOf_J3 c76 c77 c78 c79 c80 c81 c82 c83 c84 c85 c86 c87)) else none)) else (gateref2_ControlOf_J3 c76 c77 c78 c79 c80 c81 c82 c83 c84 c85 c86 c87)
noncomputable def gateref2_ControlOf_J4 (c24 : Bool) (c25 : Bool) (c26 : Int) (c27 : Int) (c28 : Bool) (c29 : Bool) (c30 : Bool) (c31 : Bool) (c32 : Int) (c33 : Int) (c34 : Int) (c35 : Int) (r42 : (Bs × Bs × Bool)) (r44 : (Int × Bool)) (v59 : Bool) : Option ((Bool × Bool × Int × Int × Bool × Bool × Bool × Bool × Int × Int × Int × Int) ⊕ (S_api_Control × Int)) :=
  if v59 then (some (.inr ((S_api_Control.mk false false false false false false 0 0 0 0 0 0), 9))) else ((m_strings_ToLower r42.1).bind fun (r61 : (Bs)) => (m_gateref2_flagNames ).bind fun (r63 : ((List Bs))) => (m_slices_Index_L_string_string_ r63 r61).bind fun (r65 : (Int)) => if decide (0 ≤ r65) then ((m_gateref2_flagsOf).bind fun (r68 : ((List Int))) => (at? r68 r65).bind fun (x70 : Int) => if ck_S_api_Control_bool x70 = true then ((some (st_S_api_Control_bool (S_api_Control.mk c24 c25 c28 c29 c30 c31 c32 c33 c34 c35 c26 c27) x70 true)).bind fun (c73 : S_api_Control) => if r42.2.2 then (some (.inr ((S_api_Control.mk false false false false false false 0 0 0 0 0 0), 9))) else (gateref2_ControlOf_J5 r42 r44 r61 c73.NoStore c73.NoCache c73.Private c73.Public c73.Must c73.Only c73.MaxAge c73.Shared c73.Stale c73.OnError c73.MaxStale c73.MinFresh)) else none) else (gateref2_ControlOf_J5 r42 r44 r61 c24 c25 c28 c29 c30 c31 c32 c33 c34 c35 c26 c27))
noncomputable def gateref2_ControlOf_L2 (k36 : Nat) (x39 : Bs) (c24 : Bool) (c25 : Bool) (c26 : Int) (c27 : Int) (c28 : Bool) (c29 : Bool) (c30 : Bool) (c31 : Bool) (c32 : Int) (c33 : Int) (c34 : Int) (c35 : Int) : Option ((Bool × Bool × Int × Int × Bool × Bool × Bool × Bool × Int × Int × Int × Int) ⊕ (S_api_Control × Int)) :=
  (m_strings_Cut x39 [61]).bind fun (r42 : (Bs × Bs × Bool)) => (m_gateref2_Number r42.2.1 9).bind fun (r44 : (Int × Bool)) => (m_gateref2_Token r42.1).bind fun (r46 : (Bool)) => if !r46 then (gateref2_ControlOf_J4 c24 c25 c26 c27 c28 c29 c30 c31 c32 c33 c34 c35 r42 r44 true) else (if r42.2.2 then (if !r44.2 then (gateref2_ControlOf_J4 c24 c25 c26 c27 c28 c29 c30 c31 c32 c33 c34 c35 r42 r44 true) else ((m_gateref2_in r44.1 0 100000000).bind fun (r54 : (Bool)) => gateref2_ControlOf_J4 c24 c25 c26 c27 c28 c29 c30 c31 c32 c33 c34 c35 r42 r44 (!r54))) else (gateref2_ControlOf_J4 c24 c25 c26 c27 c28 c29 c30 c31 c32 c33 c34 c35 r42 r44 false))
noncomputable def gateref2_ControlOf_E2 (c24 : Bool) (c25 : Bool) (c26 : Int) (c27 : Int) (c28 : Bool) (c29 : Bool) (c30 : Bool) (c31 : Bool) (c32 : Int) (c33 : Int) (c34 : Int) (c35 : Int) : Option (S_api_Control × Int) :=
  some ((S_api_Control.mk c24 c25 c28 c29 c30 c31 c32 c33 c34 c35 c26 c27), 0)
noncomputable def gateref2_ControlOf_L1 (k16 : Nat) (x19 : Int) (c4 : Bool) (c5 : Bool) (c6 : Int) (c7 : Int) (c8 : Bool) (c9 : Bool) (c10 : Bool) (c11 : Bool) (c12 : Int) (c13 : Int) (c14 : Int) (c15 : Int) : Option ((Bool × Bool × Int × Int × Bool × Bool × Bool × Bool × Int × Int × Int × Int) ⊕ (S_api_Control × Int)) :=
  if ck_S_api_Control_int x19 = true then ((some (st_S_api_Control_int (S_api_Control.mk c4 c5 c8 c9 c10 c11 c12 c13 c14 c15 c6 c7) x19 (-1))).bind fun (c117 : S_api_Control) => some (.inl (c117.NoStore, c117.NoCache, c117.MaxStale, c117.MinFresh, c117.Private, c117.Public, c117.Must, c117.Only, c117.MaxAge, c117.Shared, c117.Stale, c117.OnError))) else none
noncomputable def gateref2_ControlOf_E1 (v1 : (List S_api_Header)) (c4 : Bool) (c5 : Bool) (c6 : Int) (c7 : Int) (c8 : Bool) (c9 : Bool) (c10 : Bool) (c11 : Bool) (c12 : Int) (c13 : Int) (c14 : Int) (c15 : Int) : Option (S_api_Control × Int) :=
  (m_gateref2_Values v1 [99, 97, 99, 104, 101, 45, 99, 111, 110, 116, 114, 111, 108]).bind fun (r20 : ((List Bs))) => (m_gateref2_parts r20).bind fun (r22 : ((List Bs))) => if r22.length ≤ 1000000000 then forL (fun (k : Nat) (x : Bs) (s : Bool × Bool × Int × Int × Bool × Bool × Bool × Bool × Int × Int × Int × Int) => gateref2_ControlOf_L2 k x s.1 s.2.1 s.2.2.1 s.2.2.2.1 s.2.2.2.2.1 s.2.2.2.2.2.1 s.2.2.2.2.2.2.1 s.2.2.2.2.2.2.2.1 s.2.2.2.2.2.2.2.2.1 s.2.2.2.2.2.2.2.2.2.1 s.2.2.2.2.2.2.2.2.2.2.1 s.2.2.2.2.2.2.2.2.2.2.2) (fun (s : Bool × Bool × Int × Int × Bool × Bool × Bool × Bool × Int × Int × Int × Int) => gateref2_ControlOf_E2 s.1 s.2.1 s.2.2.1 s.2.2.2.1 s.2.2.2.2.1 s.2.2.2.2.2.1 s.2.2.2.2.2.2.1 s.2.2.2.2.2.2.2.1 s.2.2.2.2.2.2.2.2.1 s.2.2.2.2.2.2.2.2.2.1 s.2.2.2.2.2.2.2.2.2.2.1 s.2.2.2.2.2.2.2.2.2.2.2) 0 r22 (c4, c5, c6, c7, c8, c9, c10, c11, c12, c13, c14, c15) else none
noncomputable def m_gateref2_ControlOf (v1 : (List S_api_Header)) : Option (S_api_Control × Int) :=
  (m_gateref2_countsOf).bind fun (r2 : ((List Int))) => if r2.length ≤ 1000000000 then forL (fun (k : Nat) (x : Int) (s : Bool × Bool × Int × Int × Bool × Bool × Bool × Bool × Int × Int × Int × Int) => gateref2_ControlOf_L1 k x s.1 s.2.1 s.2.2.1 s.2.2.2.1 s.2.2.2.2.1 s.2.2.2.2.2.1 s.2.2.2.2.2.2.1 s.2.2.2.2.2.2.2.1 s.2.2.2.2.2.2.2.2.1 s.2.2.2.2.2.2.2.2.2.1 s.2.2.2.2.2.2.2.2.2.2.1 s.2.2.2.2.2.2.2.2.2.2.2) (fun (s : Bool × Bool × Int × Int × Bool × Bool × Bool × Bool × Int × Int × Int × Int) => gateref2_ControlOf_E1 v1 s.1 s.2.1 s.2.2.1 s.2.2.2.1 s.2.2.2.2.1 s.2.2.2.2.2.1 s.2.2.2.2.2.2.1 s.2.2.2.2.2.2.2.1 s.2.2.2.2.2.2.2.2.1 s.2.2.2.2.2.2.2.2.2.1 s.2.2.2.2.2.2.2.2.2.2.1 s.2.2.2.2.2.2.2.2.2.2.2) 0 r2 (false, false, 0, 0, false, false, false, false, 0, 0, 0, 0) else none
noncomputable def m_gatemake_Stream_Pick (s1 : S_gatemake_Stream) (l2 : (List Int)) : Option (Int × S_gatemake_Stream) :=
  (m_gatemake_Stream_Next s1 (l2.length : Int)).bind fun (r3 : (Int × S_gatemake_Stream)) => (at? l2 r3.1).bind fun (x5 : Int) => some (x5, r3.2)
noncomputable def m_gatemake_Stream_Odd (s1 : S_gatemake_Stream) (low2 : Int) (high3 : Int) : Option (Int × S_gatemake_Stream) :=
  (m_gatemake_Stream_Flip s1 12).bind fun (r4 : (Bool × S_gatemake_Stream)) => if r4.1 then ((m_gatemake_Stream_Pick r4.2 [wr (low2 - 1), wr (high3 + 1), low2, high3, (-1099511627776), 1099511627776]).bind fun (r7 : (Int × S_gatemake_Stream)) => some (r7.1, r7.2)) else ((m_gatemake_Stream_Range r4.2 low2 high3).bind fun (r9 : (Int × S_gatemake_Stream)) => some (r9.1, r9.2))
noncomputable def cache_Text_J3 (v34 : (List Bs)) : Option ((List Bs) ⊕ (Bs × Int)) :=
  some (.inl v34)
noncomputable def cache_Text_L2 (v1 : S_api_Control) (r9 : ((List Bs) × (List Int))) (k12 : Nat) (x15 : Bs) (l11 : (List Bs)) : Option ((List Bs) ⊕ (Bs × Int)) :=
  (r9.2[k12]?).bind fun (x20 : Int) => if ck_S_api_Control_int x20 = true then ((m_kit_Outside (gt_S_api_Control_int v1 x20) (-1) 100000000).bind fun (r23 : (Bool)) => if r23 then (some (.inr ([], 1))) else (if ck_S_api_Control_int x20 = true then (if decide ((gt_S_api_Control_int v1 x20) ≠ (-1)) then (if x15.length + [61].length ≤ 1000000000 then (if ck_S_api_Control_int x20 = true then ((m_strconv_Itoa (gt_S_api_Control_int v1 x20)).bind fun (r30 : (Bs)) => if (x15 ++ [61]).length + r30.length ≤ 1000000000 then (if l11.length + 1 ≤ 1000000000 then (cache_Text_J3 (l11 ++ ([((x15 ++ [61]) ++ r30)]))) else none) else none) else none) else none) else (cache_Text_J3 l11)) else none)) else none
noncomputable def cache_Text_E2 (l11 : (List Bs)) : Option (Bs × Int) :=
  (m_strings_Join l11 [44, 32]).bind fun (r16 : (Bs)) => some (r16, 0)
noncomputable def cache_Text_J4 (v42 : (List Bs)) : Option ((List Bs) ⊕ (Bs × Int)) :=
  some (.inl v42)
noncomputable def cache_Text_L1 (v1 : S_api_Control) (r2 : ((List Bs) × (List Int))) (k5 : Nat) (x8 : Bs) (l4 : (List Bs)) : Option ((List Bs) ⊕ (Bs × Int)) :=
  (r2.2[k5]?).bind fun (x37 : Int) => if ck_S_api_Control_bool x37 = true then (if (gt_S_api_Control_bool v1 x37) then (if l4.length + 1 ≤ 1000000000 then (cache_Text_J4 (l4 ++ [x8])) else none) else (cache_Text_J4 l4)) else none
noncomputable def cache_Text_E1 (v1 : S_api_Control) (l4 : (List Bs)) : Option (Bs × Int) :=
  (m_cache_numbers).bind fun (r9 : ((List Bs) × (List Int))) => if r9.1.length ≤ 1000000000 then forL (fun (k : Nat) (x : Bs) (s : (List Bs)) => cache_Text_L2 v1 r9 k x s) (fun (s : (List Bs)) => cache_Text_E2 s) 0 r9.1 l4 else none
noncomputable def m_cache_Text (v1 : S_api_Control) : Option (Bs × Int) :=
  (m_cache_flags).bind fun (r2 : ((List Bs) × (List Int))) => if r2.1.length ≤ 1000000000 then forL (fun (k : Nat) (x : Bs) (s : (List Bs)) => cache_Text_L1 v1 r2 k x s) (fun (s : (List Bs)) => cache_Text_E1 v1 s) 0 r2.1 [] else none
noncomputable def gateref2_ControlText_J3 (out34 : (List Bs)) : Option ((List Bs) ⊕ (Bs × Int)) :=
  some (.inl out34)
noncomputable def gateref2_ControlText_L2 (c1 : S_api_Control) (k12 : Nat) (x15 : Int) (l11 : (List Bs)) : Option ((List Bs) ⊕ (Bs × Int)) :=
  if ck_S_api_Control_int x15 = true then ((m_gateref2_in (gt_S_api_Control_int c1 x15) (-1) 100000000).bind fun (r21 : (Bool)) => if !r21 then (some (.inr ([], 1))) else (if decide (0 ≤ (gt_S_api_Control_int c1 x15)) then ((m_gateref2_countNames ).bind fun (r25 : ((List Bs))) => (r25[k12]?).bind fun (x27 : Bs) => if x27.length + [61].length ≤ 1000000000 then ((m_strconv_Itoa (gt_S_api_Control_int c1 x15)).bind fun (r30 : (Bs)) => if (x27 ++ [61]).length + r30.length ≤ 1000000000 then (if l11.length + 1 ≤ 1000000000 then (gateref2_ControlText_J3 (l11 ++ ([((x27 ++ [61]) ++ r30)]))) else none) else none) else none) else (gateref2_ControlText_J3 l11))) else none
noncomputable def gateref2_ControlText_E2 (l11 : (List Bs)) : Option (Bs × Int) :=
  (m_strings_Join l11 [44, 32]).bind fun (r16 : (Bs)) => some (r16, 0)
noncomputable def gateref2_ControlText_J4 (out44 : (List Bs)) : Option ((List Bs) ⊕ (Bs × Int)) :=
  some (.inl out44)
noncomputable def gateref2_ControlText_L1 (c1 : S_api_Control) (k5 : Nat) (x8 : Int) (l4 : (List Bs)) : Option ((List Bs) ⊕ (Bs × Int)) :=
  if ck_S_api_Control_bool x8 = true then (if (gt_S_api_Control_bool c1 x8) then ((m_gateref2_flagNames ).bind fun (r39 : ((List Bs))) => (r39[k5]?).bind fun (x41 : Bs) => if l4.length + 1 ≤ 1000000000 then (gateref2_ControlText_J4 (l4 ++ [x41])) else none) else (gateref2_ControlText_J4 l4)) else none
noncomputable def gateref2_ControlText_E1 (c1 : S_api_Control) (l4 : (List Bs)) : Option (Bs × Int) :=
  (m_gateref2_countsOf).bind fun (r9 : ((List Int))) => if r9.length ≤ 1000000000 then forL (fun (k : Nat) (x : Int) (s : (List Bs)) => gateref2_ControlText_L2 c1 k x s) (fun (s : (List Bs)) => gateref2_ControlText_E2 s) 0 r9 l4 else none
noncomputable def m_gateref2_ControlText (c1 : S_api_Control) : Option (Bs × Int) :=
  (m_gateref2_flagsOf).bind fun (r2 : ((List Int))) => if r2.length ≤ 1000000000 then forL (fun (k : Nat) (x : Int) (s : (List Bs)) => gateref2_ControlText_L1 c1 k x s) (fun (s : (List Bs)) => gateref2_ControlText_E1 c1 s) 0 r2 [] else none
noncomputable def m_message_CheckResponse (a1 : S_api_Response) : Option (Int) :=
  (m_kit_Outside a1.Status 100 599).bind fun (r2 : (Bool)) => if r2 then some 1 else ((m_message_CheckHeaders a1.Headers).bind fun (r5 : (Int)) => if decide (r5 ≠ 0) then some r5 else (if decide (20000 < (a1.Body.length : Int)) then some 2 else some 0))
noncomputable def m_slices_Contains_L_string_string_ (s1 : (List Bs)) (v2 : Bs) : Option (Bool) :=
  (m_slices_Index_L_string_string_ s1 v2).bind fun (r3 : (Int)) => some (decide (0 ≤ r3))
noncomputable def m_kit_Rising (l1 : (List Bs)) : Option ((List Bs)) :=
  (m_slices_Clone l1).bind fun (r2 : ((List Bs))) => (m_slices_Sort_string r2).bind fun (r4 : (List Bs)) => (m_slices_Compact_string r4).bind fun (r6 : ((List Bs))) => some r6
noncomputable def cache_vary_L1 (k7 : Nat) (l6 : (List Bs)) : Option ((List Bs) ⊕ ((List Bs) × Bool × Int)) :=
  (l6[k7]?).bind fun (x17 : Bs) => (m_message_IsToken x17).bind fun (r19 : (Bool)) => if !r19 then (some (.inr ([], false, 9))) else ((m_strings_ToLower x17).bind fun (r22 : (Bs)) => some (.inl (l6.set k7 r22)))
noncomputable def cache_vary_E1 (l6 : (List Bs)) : Option ((List Bs) × Bool × Int) :=
  (m_slices_Contains_L_string_string_ l6 [42]).bind fun (r10 : (Bool)) => if r10 then (some ([], true, 0)) else ((m_kit_Rising l6).bind fun (r13 : ((List Bs))) => if decide (10 < (r13.length : Int)) then (some ([], false, 2)) else (some (r13, false, 0)))
noncomputable def m_cache_vary (a1 : S_api_Response) : Option ((List Bs) × Bool × Int) :=
  (m_message_Values a1.Headers [118, 97, 114, 121]).bind fun (r2 : ((List Bs))) => (m_message_Parts r2).bind fun (r4 : ((List Bs))) => if r4.length ≤ 1000000000 then rng (fun (k : Nat) (s : (List Bs)) => cache_vary_L1 k s) (fun (s : (List Bs)) => cache_vary_E1 s) r4.length 0 r4 else none
noncomputable def m_cache_lifetime (c1 : S_api_Control) : Option (Int) :=
  if c1.NoCache then some 0 else (if decide (c1.Shared ≠ (-1)) then (some (wr (c1.Shared * 1000))) else (if decide (c1.MaxAge ≠ (-1)) then (some (wr (c1.MaxAge * 1000))) else some 0))
noncomputable def m_cache_Lifetime (a1 : S_api_Response) : Option (Int × Int) :=
  (m_message_CheckResponse a1).bind fun (r2 : (Int)) => if decide (r2 ≠ 0) then (some (0, r2)) else ((m_cache_parse a1.Headers).bind fun (r5 : (S_api_Control × Int)) => if decide (r5.2 ≠ 0) then (some (0, r5.2)) else ((m_cache_vary a1).bind fun (r8 : ((List Bs) × Bool × Int)) => if decide (r8.2.2 ≠ 0) then (some (0, r8.2.2)) else ((m_cache_lifetime r5.1).bind fun (r11 : (Int)) => some (r11, 0))))
noncomputable def m_gatelaw2_kept  : Option (Bool) :=
  (m_cache_Lifetime (S_api_Response.mk 200 ([(S_api_Header.mk [99, 97, 99, 104, 101, 45, 99, 111, 110, 116, 114, 111, 108] [109, 97, 120, 45, 97, 103, 101, 61, 50])]) [])).bind fun (r1 : (Int × Int)) => some ((decide (r1.2 = 0)) && (decide (r1.1 = 2000)))
noncomputable def gatemake_Stream_Words_L1 (l4 : (List Bs)) (k8 : Nat) (c5 : (List Int)) (c6 : Int) (l7 : (List Bs)) : Option (((List Int) × Int × (List Bs)) ⊕ (Bs × S_gatemake_Stream)) :=
  (m_gatemake_Stream_Some (S_gatemake_Stream.mk c5 c6) l4).bind fun (r14 : (Bs × S_gatemake_Stream)) => if l7.length + 1 ≤ 1000000000 then (some (.inl (r14.2.L, r14.2.at_, (l7 ++ [r14.1])))) else none
noncomputable def gatemake_Stream_Words_E1 (between3 : Bs) (c5 : (List Int)) (c6 : Int) (l7 : (List Bs)) : Option (Bs × S_gatemake_Stream) :=
  (m_strings_Join l7 between3).bind fun (r11 : (Bs)) => some (r11, (S_gatemake_Stream.mk c5 c6))
noncomputable def m_gatemake_Stream_Words (s1 : S_gatemake_Stream) (many2 : Int) (between3 : Bs) (l4 : (List Bs)) : Option (Bs × S_gatemake_Stream) :=
  if many2 ≤ 1000000000 then rng (fun (k : Nat) (s : (List Int) × Int × (List Bs)) => gatemake_Stream_Words_L1 l4 k s.1 s.2.1 s.2.2) (fun (s : (List Int) × Int × (List Bs)) => gatemake_Stream_Words_E1 between3 s.1 s.2.1 s.2.2) many2.toNat 0 (s1.L, s1.at_, []) else none
noncomputable def gatemake_Stream_ControlValue_J2 (t19 : Bs) (c20 : (List Int)) (c21 : Int) : Option (Bs × S_gatemake_Stream) :=
  some (t19, (S_gatemake_Stream.mk c20 c21))
noncomputable def gatemake_Stream_ControlValue_J1 (t11 : Bs) (c12 : (List Int)) (c13 : Int) : Option (Bs × S_gatemake_Stream) :=
  (m_gatemake_Stream_Flip (S_gatemake_Stream.mk c12 c13) 20).bind fun (r14 : (Bool × S_gatemake_Stream)) => if r14.1 then ((m_gatemake_Stream_Some r14.2 ([[109, 97, 120, 45, 97, 103, 101], [110, 111, 45, 99, 97, 99, 104, 101, 61, 49], [109, 97, 120, 45, 97, 103, 101, 61, 45, 49], [109, 97, 120, 45, 97, 103, 101, 61, 48, 49], [109, 97, 120, 45, 97, 103, 101, 61, 49, 48, 48, 48, 48, 48, 48, 48, 49], [61, 49], [97, 32, 98], [109, 97, 120, 45, 97, 103, 101, 61, 54, 48, 32, 44, 32, 44, 32, 110, 111, 45, 99, 97, 99, 104, 101]])).bind fun (r17 : (Bs × S_gatemake_Stream)) => gatemake_Stream_ControlValue_J2 r17.1 r17.2.L r17.2.at_) else (gatemake_Stream_ControlValue_J2 t11 r14.2.L r14.2.at_)
noncomputable def m_gatemake_Stream_ControlValue (s1 : S_gatemake_Stream) : Option (Bs × S_gatemake_Stream) :=
  (m_gatemake_Stream_Range s1 0 3).bind fun (r2 : (Int × S_gatemake_Stream)) => (m_gatemake_Stream_Words r2.2 r2.1 [44, 32] ([[109, 97, 120, 45, 97, 103, 101, 61, 54, 48], [109, 97, 120, 45, 97, 103, 101, 61, 54, 48], [109, 97, 120, 45, 97, 103, 101, 61, 48], [109, 97, 120, 45, 97, 103, 101, 61, 49, 48], [115, 45, 109, 97, 120, 97, 103, 101, 61, 51, 48], [110, 111, 45, 99, 97, 99, 104, 101], [112, 117, 98, 108, 105, 99], [109, 117, 115, 116, 45, 114, 101, 118, 97, 108, 105, 100, 97, 116, 101], [115, 116, 97, 108, 101, 45, 119, 104, 105, 108, 101, 45, 114, 101, 118, 97, 108, 105, 100, 97, 116, 101, 61, 50, 48], [115, 116, 97, 108, 101, 45, 105, 102, 45, 101, 114, 114, 111, 114, 61, 49, 48, 48], [120, 61, 49], [121], [77, 97, 120, 45, 65, 103, 101, 61, 57, 48]])).bind fun (r4 : (Bs × S_gatemake_Stream)) => (m_gatemake_Stream_Flip r4.2 10).bind fun (r6 : (Bool × S_gatemake_Stream)) => if r6.1 then ((m_gatemake_Stream_Words r6.2 2 [44] ([[110, 111, 45, 115, 116, 111, 114, 101], [112, 114, 105, 118, 97, 116, 101], [109, 97, 120, 45, 97, 103, 101, 61, 54, 48], [111, 110, 108, 121, 45, 105, 102, 45, 99, 97, 99, 104, 101, 100], [105, 109, 109, 117, 116, 97, 98, 108, 101]])).bind fun (r9 : (Bs × S_gatemake_Stream)) => gatemake_Stream_ControlValue_J1 r9.1 r9.2.L r9.2.at_) else (gatemake_Stream_ControlValue_J1 r4.1 r6.2.L r6.2.at_)
noncomputable def gatemake_Stream_AskValue_J1 (t11 : Bs) (c12 : (List Int)) (c13 : Int) : Option (Bs × S_gatemake_Stream) :=
  some (t11, (S_gatemake_Stream.mk c12 c13))
noncomputable def m_gatemake_Stream_AskValue (s1 : S_gatemake_Stream) : Option (Bs × S_gatemake_Stream) :=
  (m_gatemake_Stream_Range s1 1 2).bind fun (r2 : (Int × S_gatemake_Stream)) => (m_gatemake_Stream_Words r2.2 r2.1 [44, 32] ([[109, 97, 120, 45, 97, 103, 101, 61, 51, 48], [109, 97, 120, 45, 97, 103, 101, 61, 48], [109, 105, 110, 45, 102, 114, 101, 115, 104, 61, 50, 48], [109, 97, 120, 45, 115, 116, 97, 108, 101, 61, 49, 53], [110, 111, 45, 99, 97, 99, 104, 101], [111, 110, 108, 121, 45, 105, 102, 45, 99, 97, 99, 104, 101, 100], [109, 97, 120, 45, 115, 116, 97, 108, 101, 61, 49, 48, 48, 48], [110, 111, 45, 115, 116, 111, 114, 101]])).bind fun (r4 : (Bs × S_gatemake_Stream)) => (m_gatemake_Stream_Flip r4.2 20).bind fun (r6 : (Bool × S_gatemake_Stream)) => if r6.1 then ((m_gatemake_Stream_Some r6.2 ([[109, 97, 120, 45, 115, 116, 97, 108, 101], [109, 105, 110, 45, 102, 114, 101, 115, 104, 61, 120]])).bind fun (r9 : (Bs × S_gatemake_Stream)) => gatemake_Stream_AskValue_J1 r9.1 r9.2.L r9.2.at_) else (gatemake_Stream_AskValue_J1 r4.1 r6.2.L r6.2.at_)
noncomputable def gatelaw2_ControlsRead_J5 (v78 : Bool) : Option (Bool) :=
  some v78
noncomputable def gatelaw2_ControlsRead_J4 (c54 : Bool) (c55 : Bool) (c56 : Bool) (c57 : Bool) (c58 : Bool) (c59 : Bool) (c60 : Int) (c61 : Int) (c62 : Int) (c63 : Int) (c64 : Int) (c65 : Int) : Option (Bool) :=
  (m_cache_Text (S_api_Control.mk c54 c55 c56 c57 c58 c59 c60 c61 c62 c63 c64 c65)).bind fun (r66 : (Bs × Int)) => (m_gateref2_ControlText (S_api_Control.mk c54 c55 c56 c57 c58 c59 c60 c61 c62 c63 c64 c65)).bind fun (r68 : (Bs × Int)) => if decide (r66.1 = r68.1) then (if decide (r66.2 = r68.2) then ((m_gatelaw2_kept ).bind fun (r74 : (Bool)) => gatelaw2_ControlsRead_J5 r74) else (gatelaw2_ControlsRead_J5 false)) else (gatelaw2_ControlsRead_J5 false)
noncomputable def gatelaw2_ControlsRead_J3 (c6 : (List Int)) (c7 : Int) (r12 : (S_api_Control × Int)) (v35 : Bool) : Option (Bool) :=
  if v35 then some false else ((m_gatemake_Stream_Flip (S_gatemake_Stream.mk c6 c7) 3).bind fun (r37 : (Bool × S_gatemake_Stream)) => if r37.1 then ((m_gatemake_Stream_Flip r37.2 2).bind fun (r40 : (Bool × S_gatemake_Stream)) => (m_gatemake_Stream_Flip r40.2 2).bind fun (r42 : (Bool × S_gatemake_Stream)) => (m_gatemake_Stream_Flip r42.2 2).bind fun (r44 : (Bool × S_gatemake_Stream)) => (m_gatemake_Stream_Odd r44.2 (-1) 100).bind fun (r46 : (Int × S_gatemake_Stream)) => (m_gatemake_Stream_Odd r46.2 (-1) 100).bind fun (r48 : (Int × S_gatemake_Stream)) => (m_gatemake_Stream_Pick r48.2 [(-1), 0, 5]).bind fun (r50 : (Int × S_gatemake_Stream)) => (m_gatemake_Stream_Pick r50.2 [(-1), 7]).bind fun (r52 : (Int × S_gatemake_Stream)) => gatelaw2_ControlsRead_J4 r40.1 false false r42.1 false r44.1 r46.1 r48.1 (-1) r50.1 (-1) r52.1) else (gatelaw2_ControlsRead_J4 r12.1.NoStore r12.1.NoCache r12.1.Private r12.1.Public r12.1.Must r12.1.Only r12.1.MaxAge r12.1.Shared r12.1.Stale r12.1.OnError r12.1.MaxStale r12.1.MinFresh))
noncomputable def gatelaw2_ControlsRead_J2 (c6 : (List Int)) (c7 : Int) (r12 : (S_api_Control × Int)) (v19 : Int) (c20 : Bool) (c21 : Bool) (c22 : Bool) (c23 : Bool) (c24 : Bool) (c25 : Bool) (c26 : Int) (c27 : Int) (c28 : Int) (c29 : Int) (c30 : Int) (c31 : Int) : Option (Bool) :=
  if decide (r12.2 ≠ v19) then (gatelaw2_ControlsRead_J3 c6 c7 r12 true) else (gatelaw2_ControlsRead_J3 c6 c7 r12 (!((r12.1.NoStore == c20) && ((r12.1.NoCache == c21) && ((r12.1.Private == c22) && ((r12.1.Public == c23) && ((r12.1.Must == c24) && ((r12.1.Only == c25) && ((r12.1.MaxAge == c26) && ((r12.1.Shared == c27) && ((r12.1.Stale == c28) && ((r12.1.OnError == c29) && ((r12.1.MaxStale == c30) && ((r12.1.MinFresh == c31) && true))))))))))))))
noncomputable def gatelaw2_ControlsRead_L1 (k9 : Nat) (c6 : (List Int)) (c7 : Int) (l8 : (List S_api_Header)) : Option (((List Int) × Int × (List S_api_Header)) ⊕ (Bool)) :=
  (m_gatemake_Stream_Some (S_gatemake_Stream.mk c6 c7) ([[99, 97, 99, 104, 101, 45, 99, 111, 110, 116, 114, 111, 108], [67, 97, 99, 104, 101, 45, 67, 111, 110, 116, 114, 111, 108]])).bind fun (r80 : (Bs × S_gatemake_Stream)) => (m_gatemake_Stream_ControlValue r80.2).bind fun (r82 : (Bs × S_gatemake_Stream)) => (m_gatemake_Stream_AskValue r82.2).bind fun (r84 : (Bs × S_gatemake_Stream)) => (m_gatemake_Stream_Some r84.2 [r82.1, r84.1]).bind fun (r86 : (Bs × S_gatemake_Stream)) => if l8.length + 1 ≤ 1000000000 then (some (.inl (r86.2.L, r86.2.at_, (l8 ++ [(S_api_Header.mk r80.1 r86.1)])))) else none
noncomputable def gatelaw2_ControlsRead_E1 (c6 : (List Int)) (c7 : Int) (l8 : (List S_api_Header)) : Option (Bool) :=
  (m_cache_Parse l8).bind fun (r12 : (S_api_Control × Int)) => (m_gateref2_HeadersFault l8).bind fun (r14 : (Int)) => if decide (r14 = 0) then ((m_gateref2_ControlOf l8).bind fun (r17 : (S_api_Control × Int)) => gatelaw2_ControlsRead_J2 c6 c7 r12 r17.2 r17.1.NoStore r17.1.NoCache r17.1.Private r17.1.Public r17.1.Must r17.1.Only r17.1.MaxAge r17.1.Shared r17.1.Stale r17.1.OnError r17.1.MaxStale r17.1.MinFresh) else (gatelaw2_ControlsRead_J2 c6 c7 r12 r14 false false false false false false 0 0 0 0 0 0)
noncomputable def m_gatelaw2_ControlsRead (v1 : (List Int)) : Option (Bool) :=
  (m_gatemake_Stream_Headers (S_gatemake_Stream.mk v1 0) 2).bind fun (r2 : ((List S_api_Header) × S_gatemake_Stream)) => (m_gatemake_Stream_Range r2.2 0 2).bind fun (r4 : (Int × S_gatemake_Stream)) => if r4.1 ≤ 1000000000 then rng (fun (k : Nat) (s : (List Int) × Int × (List S_api_Header)) => gatelaw2_ControlsRead_L1 k s.1 s.2.1 s.2.2) (fun (s : (List Int) × Int × (List S_api_Header)) => gatelaw2_ControlsRead_E1 s.1 s.2.1 s.2.2) r4.1.toNat 0 (r4.2.L, r4.2.at_, r2.1) else none
end Go.Proofs.YthgeeoecgneclaaGreatDoor
