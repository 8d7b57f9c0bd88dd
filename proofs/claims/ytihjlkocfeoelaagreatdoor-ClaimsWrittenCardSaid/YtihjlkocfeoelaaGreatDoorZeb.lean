/- ClaimsWritten: the plain law. -/
import Derived.Test.YtihjlkocfeoelaaGreatDoorCzZe
namespace Go.Proofs.YtihjlkocfeoelaaGreatDoor
set_option linter.unusedVariables false
set_option linter.unusedSimpArgs false
set_option maxRecDepth 20000
theorem x1n {r2:z0f×z0d} (h:ClB r2.1) (t:Bs) (ht:t.length≤1000000):Ok (z2h r2 t) (· = true):=by
 unfold z2h z1c
 rw [x7v _ h,x7u _ h,y69 t ht,y68 t ht,y8u _ h,x1v _ h]
 simp only [Option.bind_some]
 rw [if_pos (by simp),if_pos (by simp),if_pos (by simp),x49 _ (x61 t)]
 simp only [Option.bind_some,if_true]
 rw [if_pos (by simp),if_pos (by simp),x0i]
 exact z2x rfl
theorem y1r (L:List Int):z5j L=some true:=by
 refine x5i ?_
 unfold z5j
 refine z07 (x1u (k:=0) ⟨by simp,by simp⟩ (by omega)) fun r2 h2=>z07 (y5j h2.2 (by omega)) fun r4 h4=>z07 (y1q h4.2 (by omega) _ (by omega)) fun r6 h6=>y0u (fun _=>ok_g (by omega) (x1n h2.1 _ ?_)) (fun _=>x1n h2.1 _ (by have:=h4.1; omega))
 simp [strN]
end Go.Proofs.YtihjlkocfeoelaaGreatDoor
