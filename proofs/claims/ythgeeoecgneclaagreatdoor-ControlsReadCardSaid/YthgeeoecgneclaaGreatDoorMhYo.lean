/- Plain: hosts of the streams: the program and the reference agree; streams of headers, requests and responses. -/
import Derived.Test.YthgeeoecgneclaaGreatDoorMgYo
namespace Go.Proofs.YthgeeoecgneclaaGreatDoor
set_option linter.unusedVariables false
set_option maxRecDepth 20000
theorem cutb_len (s : Bs) (c : UInt8) : (Lib.cut s [c]).1.length ≤ s.length := by
  unfold Lib.cut
  split
  · simp; omega
  · exact Nat.le_refl _
/-- the hosts that the streams speak of -/
def hostsL : List Bs := [[97, 46, 98], [65, 46, 66], [97, 46, 98, 58, 56, 48], [99, 46, 100, 58, 56, 48, 56, 48], [115, 104, 111, 112, 46, 101, 120, 97, 109, 112, 108, 101], [97, 46, 98, 58, 52, 52, 51], [97, 46, 98, 58, 56, 48, 56, 48], [120, 45, 49, 46, 121], [49, 46, 50, 46, 51, 46, 52], [], [97, 46, 46, 98], [45, 97, 46, 98], [97, 46, 98, 58, 48], [97, 46, 98, 58, 48, 56], [97, 46, 98, 58, 54, 53, 53, 51, 54], [97, 95, 98], [97, 46, 98, 58], [97, 32, 98], List.replicate 64 97]
theorem hosts_len : hostsL.all (fun s => decide (s.length ≤ 1000)) = true := by decide +kernel
end Go.Proofs.YthgeeoecgneclaaGreatDoor
