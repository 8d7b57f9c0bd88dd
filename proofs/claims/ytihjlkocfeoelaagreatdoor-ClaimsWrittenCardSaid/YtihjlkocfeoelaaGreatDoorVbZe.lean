/- Plain: the law ScopesCover is true for every list of numbers. -/
import Derived.Test.YtihjlkocfeoelaaGreatDoorScZe
namespace Go.Proofs.YtihjlkocfeoelaaGreatDoor
set_option linter.unusedVariables false
set_option maxRecDepth 20000
def mtS (b:List Bs) (x:Bs):List Bs:=b.flatMap fun y=>if cvB x y=true then [y] else if cvB y x=true then [x] else []
def mtL (a b:List Bs):List Bs:=a.flatMap (mtS b)
section
variable (a b:List Bs) (ha:Sh a) (hb:Sh b) (hl:a.length≤50∧b.length≤50)
include ha hb
omit hb in
include hl
end
theorem x7y {a:List Bs} (h:scF a=0):a.length≤50∧a.all scP=true:=by
 unfold scF at h
 split at h
 ·cases h
 ·split at h
  ·rename_i h1 h2; exact ⟨by omega,h2⟩
  ·cases h
theorem x0i:z6t=some true:=by
 have h:z7z [97,98]=some [89,87,73]:=by
  unfold z7z
  exact z90.2 ⟨2,by decide +kernel⟩
 unfold z6t
 rw [h]
 decide +kernel
def ScB (l:List Bs):Prop:=(l.length≤5∨l=List.replicate 51 [])∧Sh l
theorem x3f {k:Int} {s:z0d} (h:SB k s) (hk:k≤1000000):Ok (z4s s) fun r=>r.1.length≤1000∧SB (k+2) r.2:=by
 unfold z4s z66
 refine z07 (y1q h (by omega) _ (by omega)) fun r hr=>y0u (fun _ => ?_) (fun _ => ?_)
 ·rw [if_pos (by decide)]
  simp only [Option.bind_some]
  refine ok_g (by rw [Lib.repeatL_length]; decide) (z07 (z7i hr (by omega) _ ⟨by simp,by simp⟩) fun r3 h3=>z2x ⟨?_,h3.2.mono (by omega)⟩)
  have h1:=h3.1
  simp only [List.mem_cons,List.not_mem_nil,or_false] at h1
  simp only
  rcases h1 with h1 | h1 | h1 | h1 | h1 | h1 | h1 | h1 <;> rw [h1] <;> first | decide | (rw [List.length_append,Lib.repeatL_length]; decide)
 ·refine z07 (z7i hr (by omega) _ ⟨by simp,by simp⟩) fun r3 h3=>z2x ⟨?_,h3.2.mono (by omega)⟩
  have h1:=h3.1
  simp only [List.mem_cons,List.not_mem_nil,or_false] at h1
  simp only
  rcases h1 with h1 | h1 | h1 | h1 | h1 | h1 | h1 | h1 | h1 | h1 <;> rw [h1] <;> decide
theorem y2d {k:Int} {s:z0d} (h:SB k s) (hk:k≤1000000):Ok (z1m s) fun r=>(r.1.length≤4∧∀ x,x∈r.1→x.length≤1000)∧SB (k+5) r.2:=by
 unfold z1m
 refine z07 (y79 h (by omega) 0 4 (by omega)) fun r2 h2=>ok_g (by omega) ?_
 refine x0t (fun (j:Nat) (q:(List Int)×Int×(List Bs))=>SB (k+1+(j:Int)) ⟨q.1,q.2.1⟩∧q.2.2.length≤j∧∀ x,x∈q.2.2→x.length≤1000) _ 0 _ ⟨by simpa using h2.2,by simp,by simp⟩ ?_ ?_
 ·rintro j ⟨c,d,l⟩ _ hj ⟨q1,q2,q3⟩
  simp only at q1 q2 q3
  have hj:j < 4:=by omega
  unfold z13
  refine z07 (z7i q1 (by omega) _ ⟨by simp,by simp⟩) fun r3 h3=>ok_g (by simp only; omega) (z2x ⟨h3.2.mono (by omega),by simp; omega,fun y hy => ?_⟩)
  rcases List.mem_append.1 hy with hy | hy
  ·exact q3 y hy
  ·simp only [List.mem_singleton] at hy
   subst hy
   have h1:=h3.1
   simp only [List.mem_cons,List.not_mem_nil,or_false] at h1
   rcases h1 with h1 | h1 | h1 | h1 | h1 | h1 | h1 | h1 | h1 <;> rw [h1] <;> decide
 ·rintro ⟨c,d,l⟩ ⟨q1,q2,q3⟩
  simp only at q1 q2 q3
  exact z2x ⟨⟨by simp only; omega,q3⟩,q1.mono (by omega)⟩
theorem x0m {k:Int} {s:z0d} (h:SB k s) (hk:k≤100000):Ok (z4k s) fun r=>ScB r.1∧SB (k+20) r.2:=by
 unfold z4k
 refine z07 (y2d h (by omega)) fun r2 h2=>z07 (y1q h2.2 (by omega) _ (by omega)) fun r4 h4 => ?_
 have hJ:∀ (l:List Bs) (c:List Int) (d:Int),l.length≤5∧(∀ x,x∈l→x.length≤1000)→SB (k+10) ⟨c,d⟩→Ok (z2g l c d) fun r=>ScB r.1∧SB (k+20) r.2:=by
  intro l c d hl hs
  unfold z2g z3l
  refine z07 (y1q hs (by omega) _ (by omega)) fun r6 h6=>y0u (fun _=>ok_g (by decide) (z2x ⟨⟨.inr rfl,by simp,fun x hx => ?_⟩,h6.mono (by omega)⟩)) (fun _=>z2x ⟨⟨.inl hl.1,by simp only; omega,fun x hx=>by have:=hl.2 x hx; omega⟩,h6.mono (by omega)⟩)
  rw [List.eq_of_mem_replicate hx]; decide
 refine y0u (fun _ => ?_) (fun _=>hJ _ _ _ ⟨by omega,h2.1.2⟩ (h4.mono (by omega)))
 refine z07 (x3f h4 (by omega)) fun r7 h7=>ok_g (by omega) (hJ _ _ _ ⟨by simp; omega,fun x hx => ?_⟩ (h7.2.mono (by omega)))
 rcases List.mem_append.1 hx with hx | hx
 ·exact h2.1.2 x hx
 ·simp only [List.mem_singleton] at hx
  subst hx; exact h7.1
end Go.Proofs.YtihjlkocfeoelaaGreatDoor
