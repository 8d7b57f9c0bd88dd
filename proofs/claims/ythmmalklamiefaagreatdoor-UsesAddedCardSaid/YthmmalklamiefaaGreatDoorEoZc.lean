/- Plain: the law's office: a catalog, applications and events, with their fault. -/
import Derived.Test.YthmmalklamiefaaGreatDoorEgZc
import Derived.Test.YthmmalklamiefaaGreatDoorEaZc
namespace Go.Proofs.YthmmalklamiefaaGreatDoor
set_option linter.unusedVariables false
set_option linter.unusedSimpArgs false
set_option maxRecDepth 20000
theorem w1s {k:Int} {s:z0d} (h:SB k s) (hk:k≤1000) {n:Int} (hn:0≤n∧n≤19) :
  Ok (y12 s n) fun r=>(CS r.1∧(r.2.1.length≤4∧∀ x,x∈r.2.1→x.Key.length≤100∧x.Owner.length≤100)∧((r.2.2.1.length:Int)≤n∧∀ x,x∈r.2.2.1→EB x)∧r.2.2.2.1=eF r.1 r.2.1 r.2.2.1)∧SB (k+700) r.2.2.2.2:=by
 unfold y12
 refine z1c (w8y h (by omega)) fun r3 h3=>z1c (w7n h3.2 (by omega)) fun r5 h5=>z1c (w0b h5.2 (by omega) h3.1 ⟨by have:=h5.1.1; omega,h5.1.2⟩ hn) fun r7 h7 => ?_
 rw [x2w h3.1.cb ⟨by have:=h5.1.1; omega,h5.1.2⟩ h7.1.2]
 exact z13 ⟨⟨h3.1,h5.1,h7.1,rfl⟩,h7.2.mono (by omega)⟩
theorem w9o {l:List z0s} (h:l.length≤4∧∀ x,x∈l→x.Key.length≤100∧x.Owner.length≤100):AB l:=⟨by omega,h.2⟩
end Go.Proofs.YthmmalklamiefaaGreatDoor
