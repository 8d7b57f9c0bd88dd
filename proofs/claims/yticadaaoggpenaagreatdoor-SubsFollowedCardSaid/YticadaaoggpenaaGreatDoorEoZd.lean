/- Plain: the law's office: a catalog, applications and events, with their fault. -/
import Derived.Test.YticadaaoggpenaaGreatDoorEgZd
import Derived.Test.YticadaaoggpenaaGreatDoorEaZd
namespace Go.Proofs.YticadaaoggpenaaGreatDoor
set_option linter.unusedVariables false
set_option linter.unusedSimpArgs false
set_option maxRecDepth 20000
theorem w0h {k:Int} {s:z0d} (h:SB k s) (hk:k≤1000) {n:Int} (hn:0≤n∧n≤19) :
  Ok (y0p s n) fun r=>(CS r.1∧(r.2.1.length≤4∧∀ x,x∈r.2.1→x.Key.length≤100∧x.Owner.length≤100)∧((r.2.2.1.length:Int)≤n∧∀ x,x∈r.2.2.1→EB x)∧r.2.2.2.1=eF r.1 r.2.1 r.2.2.1)∧SB (k+700) r.2.2.2.2:=by
 unfold y0p
 refine z1f (w7s h (by omega)) fun r3 h3=>z1f (w6r h3.2 (by omega)) fun r5 h5=>z1f (x8m h5.2 (by omega) h3.1 ⟨by have:=h5.1.1; omega,h5.1.2⟩ hn) fun r7 h7 => ?_
 rw [x0y h3.1.cb ⟨by have:=h5.1.1; omega,h5.1.2⟩ h7.1.2]
 exact z15 ⟨⟨h3.1,h5.1,h7.1,rfl⟩,h7.2.mono (by omega)⟩
theorem w8l {l:List z0t} (h:l.length≤4∧∀ x,x∈l→x.Key.length≤100∧x.Owner.length≤100):AB l:=⟨by omega,h.2⟩
theorem x8n (a:List Int) (h:a.length≤1000000000):z7m a a=some true:=
 x4h (fun (x y:Int)=>decide (x≠y)) (fun x=>by simp) a h
end Go.Proofs.YticadaaoggpenaaGreatDoor
