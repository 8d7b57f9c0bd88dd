/- Plain: the signer at a moment. -/
import Derived.Test.YtkckjgkfljgjpaaGreatDoorTaZg
import Derived.Test.YtkckjgkfljgjpaaGreatDoorRng
namespace Go.Proofs.YtkckjgkfljgjpaaGreatDoor
set_option linter.unusedVariables false
set_option linter.unusedSimpArgs false
set_option linter.unusedSectionVars false
set_option maxRecDepth 20000
theorem w0f (v:Int) (l:List z0g):∀ n,n≤l.length→Ok (back (fun (k:Nat) (x:z0g) (s:Unit)=>z3v v k x) (fun (s:Unit)=>z8y) l n ()) fun r=>r.2=false→r.1.Id=[]
 | 0,_=>z1z fun _=>rfl
 | n+1,h=>by
  show Ok ((l[n]?).bind _) _
  rw [List.getElem?_eq_getElem (by omega)]
  show Ok ((z3v v n l[n]).bind _) _
  unfold z3v
  split
  ·exact z1z fun h=>by cases h
  ·exact w0f v l n (by omega)
theorem x8l (l:List z0g) (hl:SgB l) (v:Int):Ok (z4q l v) fun r=>r.2=false→r.1.Id=[]:=by
 unfold z4q
 have:=hl.len
 exact ok_g (by omega) (w0f v l _ (Nat.le_refl _))
noncomputable def sgAt (l:List z0g) (v:Int):z0g×Bool:=(z4q l v).getD (⟨[],[],0,0,0⟩,false)
theorem x4q (l:List z0g) (hl:SgB l) (v:Int):z4q l v=some (sgAt l v)∧((sgAt l v).2=false→(sgAt l v).1.Id=[]):=by
 obtain ⟨r,h1,h2⟩:=x8l l hl v
 unfold sgAt
 rw [h1]
 exact ⟨rfl,h2⟩
theorem w5m (l:List z0g) (hl:SgB l) (v:Int):y2d l v=some (sgAt l v):=(x4q l hl v).1
end Go.Proofs.YtkckjgkfljgjpaaGreatDoor
