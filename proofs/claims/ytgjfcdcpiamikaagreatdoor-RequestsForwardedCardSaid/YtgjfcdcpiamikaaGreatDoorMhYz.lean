/- Plain: hosts of the streams: the program and the reference agree; streams of headers, requests and responses. -/
import Derived.Test.YtgjfcdcpiamikaaGreatDoorMgYz
namespace Go.Proofs.YtgjfcdcpiamikaaGreatDoor
set_option linter.unusedVariables false
set_option maxRecDepth 20000
/-- hosts, with what turns in loops replaced -/
noncomputable def isHostC (s : Bs) : Option Bool :=
  forL (fun (k : Nat) (x : Bs) (_ : Unit) => message_isHost_L1 k x) (fun (_ : Unit) => message_isHost_E1 s (Lib.cut s [58])) 0 (spl 46 (Lib.cut s [58]).1) ()
noncomputable def hostL2 (k : Nat) (x : Bs) : Option (Unit ⊕ (Bs × Int)) :=
  (m_gateref2_in (x.length : Int) 1 63).bind fun r33 => if !r33 then (gateref2_HostOf_J4 true) else ((m_gateref2_only x [97, 98, 99, 100, 101, 102, 103, 104, 105, 106, 107, 108, 109, 110, 111, 112, 113, 114, 115, 116, 117, 118, 119, 120, 121, 122, 65, 66, 67, 68, 69, 70, 71, 72, 73, 74, 75, 76, 77, 78, 79, 80, 81, 82, 83, 84, 85, 86, 87, 88, 89, 90, 48, 49, 50, 51, 52, 53, 54, 55, 56, 57, 45]).bind fun r37 => if !r37 then (gateref2_HostOf_J4 true) else (gateref2_HostOf_J4 (decide (trL 45 (trR 45 x) ≠ x))))
theorem hostL2_eq (k : Nat) (x : Bs) (h : x.length ≤ 1000000000) : gateref2_HostOf_L2 k x = hostL2 k x := by
  unfold gateref2_HostOf_L2 hostL2
  rw [trim_eq 45 (by decide) x h]
  rfl
noncomputable def hostJ1 (r2 : (Bs × Bs × Bool)) (r4 : (Int × Bool)) (v17 : Bool) : Option (Bs × Int) :=
  if v17 then (some ([], 3)) else (if (spl 46 r2.1).length ≤ 1000000000 then forL (fun (k : Nat) (x : Bs) (_ : Unit) => hostL2 k x) (fun (_ : Unit) => gateref2_HostOf_E2 r2 r4) 0 (spl 46 r2.1) () else none)
theorem hostJ1_eq (r2 : (Bs × Bs × Bool)) (r4 : (Int × Bool)) (v : Bool) (h : r2.1.length ≤ 100000) : gateref2_HostOf_J1 r2 r4 v = hostJ1 r2 r4 v := by
  unfold gateref2_HostOf_J1 hostJ1 m_strings_Split
  cases v
  case true => rfl
  simp only [Bool.false_eq_true, if_false]
  rw [if_pos (c := r2.1.length ≤ 1000000000 ∧ _) ⟨by omega, by simp⟩, splitL_one]
  simp only [Option.bind_some]
  have : forL (fun (k : Nat) (x : Bs) (_ : Unit) => gateref2_HostOf_L2 k x) (fun (_ : Unit) => gateref2_HostOf_E2 r2 r4) 0 (spl 46 r2.1) () = forL (fun (k : Nat) (x : Bs) (_ : Unit) => hostL2 k x) (fun (_ : Unit) => gateref2_HostOf_E2 r2 r4) 0 (spl 46 r2.1) () := by
    refine forL_congr (fun _ => rfl) _ 0 () fun j x s _ hj => ?_
    have := spl_piece 46 r2.1 x (List.mem_of_getElem? hj)
    exact hostL2_eq j x (by omega)
  rw [this]
noncomputable def hostOfC (v1 : Bs) : Option (Bs × Int) :=
  (m_gateref2_Number (Lib.cut v1 [58]).2.1 5).bind fun r4 => if decide (255 < (v1.length : Int)) then (hostJ1 (Lib.cut v1 [58]) r4 true) else (if (Lib.cut v1 [58]).2.2 then (if !r4.2 then (hostJ1 (Lib.cut v1 [58]) r4 true) else ((m_gateref2_in r4.1 1 65535).bind fun r12 => hostJ1 (Lib.cut v1 [58]) r4 (!r12))) else (hostJ1 (Lib.cut v1 [58]) r4 false))
theorem cutb_len (s : Bs) (c : UInt8) : (Lib.cut s [c]).1.length ≤ s.length := by
  unfold Lib.cut
  split
  · simp; omega
  · exact Nat.le_refl _
theorem isHost_eq (s : Bs) (h : s.length ≤ 100000) : m_message_isHost s = isHostC s := by
  have h1 := cutb_len s 58
  have h2 := spl_len 46 (Lib.cut s [58]).1
  unfold m_message_isHost isHostC m_strings_Cut m_strings_Split
  rw [if_pos (by omega)]
  simp only [Option.bind_some]
  rw [if_pos ⟨by omega, by simp⟩, splitL_one]
  simp only [Option.bind_some]
  rw [if_pos (by omega)]
theorem hostOf_eq (s : Bs) (h : s.length ≤ 100000) : m_gateref2_HostOf s = hostOfC s := by
  have h1 := cutb_len s 58
  unfold m_gateref2_HostOf hostOfC m_strings_Cut
  rw [if_pos (by omega)]
  simp only [Option.bind_some]
  congr 1
  funext r4
  simp only [hostJ1_eq _ _ _ (show (Lib.cut s [58]).1.length ≤ 100000 by omega)]
/-- the hosts that the streams speak of -/
def hostsL : List Bs := [[65, 46, 66, 58, 56, 48], [99, 46, 100], [97, 46, 98], [65, 46, 66], [97, 46, 98, 58, 56, 48], [99, 46, 100, 58, 56, 48, 56, 48], [115, 104, 111, 112, 46, 101, 120, 97, 109, 112, 108, 101], [97, 46, 98, 58, 52, 52, 51], [97, 46, 98, 58, 56, 48, 56, 48], [120, 45, 49, 46, 121], [49, 46, 50, 46, 51, 46, 52], [], [97, 46, 46, 98], [45, 97, 46, 98], [97, 46, 98, 58, 48], [97, 46, 98, 58, 48, 56], [97, 46, 98, 58, 54, 53, 53, 51, 54], [97, 95, 98], [97, 46, 98, 58], [97, 32, 98], List.replicate 64 97]
noncomputable def hostCk (s : Bs) : Bool := match isHostC s, hostOfC s with
  | some b, some r => r.2 == (if b then 0 else 3)
  | _, _ => false
theorem hosts_ck : hostsL.all hostCk = true := by decide +kernel
theorem hosts_len : hostsL.all (fun s => decide (s.length ≤ 1000)) = true := by decide +kernel
theorem host_same {s : Bs} (h : s ∈ hostsL) : ∃ b r, m_message_isHost s = some b ∧ m_gateref2_HostOf s = some r ∧ r.2 = if b then 0 else 3 := by
  have h1 := List.all_eq_true.1 hosts_ck s h
  have h2 := of_decide_eq_true (List.all_eq_true.1 hosts_len s h)
  rw [isHost_eq s (by omega), hostOf_eq s (by omega)]
  unfold hostCk at h1
  split at h1
  · rename_i b r e1 e2
    exact ⟨b, r, e1, e2, by simpa using h1⟩
  · cases h1
end Go.Proofs.YtgjfcdcpiamikaaGreatDoor
