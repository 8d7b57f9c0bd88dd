/- Plain: the law ScopesCover is true for every list of numbers. -/
import Derived.Test.YtkckjgkfljgjpaaGreatDoorScZg
namespace Go.Proofs.YtkckjgkfljgjpaaGreatDoor
set_option linter.unusedVariables false
set_option maxRecDepth 20000
def mtS (b:List Bs) (x:Bs):List Bs:=b.flatMap fun y=>if cvB x y=true then [y] else if cvB y x=true then [x] else []
def mtL (a b:List Bs):List Bs:=a.flatMap (mtS b)
section
variable (a b:List Bs) (ha:Sh a) (hb:Sh b) (hl:a.length≤50∧b.length≤50)
include ha hb
omit hb in
include hl
end
theorem w6s {a:List Bs} (h:scF a=0):a.length≤50∧a.all scP=true:=by
 unfold scF at h
 split at h
 ·cases h
 ·split at h
  ·rename_i h1 h2; exact ⟨by omega,h2⟩
  ·cases h
theorem x8m:y0m=some true:=by
 have h:z69 [97,98]=some [89,87,73]:=by
  unfold z69
  exact y3m.2 ⟨2,by decide +kernel⟩
 unfold y0m
 rw [h]
 decide +kernel
def ScB (l:List Bs):Prop:=(l.length≤5∨l=List.replicate 51 [])∧Sh l
theorem w1k {k:Int} {s:z0d} (h:SB k s) (hk:k≤1000000):Ok (z7d s) fun r=>r.1.length≤1000∧SB (k+2) r.2:=by
 unfold z7d z41
 refine z02 (y4n h (by omega) _ (by omega)) fun r hr=>y2r (fun _ => ?_) (fun _ => ?_)
 ·rw [if_pos (by decide)]
  simp only [Option.bind_some]
  refine ok_g (by rw [Lib.repeatL_length]; decide) (z02 (z9j hr (by omega) _ ⟨by simp,by simp⟩) fun r3 h3=>z1z ⟨?_,h3.2.mono (by omega)⟩)
  have h1:=h3.1
  simp only [List.mem_cons,List.not_mem_nil,or_false] at h1
  simp only
  rcases h1 with h1 | h1 | h1 | h1 | h1 | h1 | h1 | h1 <;> rw [h1] <;> first | decide | (rw [List.length_append,Lib.repeatL_length]; decide)
 ·refine z02 (z9j hr (by omega) _ ⟨by simp,by simp⟩) fun r3 h3=>z1z ⟨?_,h3.2.mono (by omega)⟩
  have h1:=h3.1
  simp only [List.mem_cons,List.not_mem_nil,or_false] at h1
  simp only
  rcases h1 with h1 | h1 | h1 | h1 | h1 | h1 | h1 | h1 | h1 | h1 <;> rw [h1] <;> decide
theorem y74 {k:Int} {s:z0d} (h:SB k s) (hk:k≤1000000):Ok (z15 s) fun r=>(r.1.length≤4∧∀ x,x∈r.1→x.length≤1000)∧SB (k+5) r.2:=by
 unfold z15
 refine z02 (x1t h (by omega) 0 4 (by omega)) fun r2 h2=>ok_g (by omega) ?_
 refine x81 (fun (j:Nat) (q:(List Int)×Int×(List Bs))=>SB (k+1+(j:Int)) ⟨q.1,q.2.1⟩∧q.2.2.length≤j∧∀ x,x∈q.2.2→x.length≤1000) _ 0 _ ⟨by simpa using h2.2,by simp,by simp⟩ ?_ ?_
 ·rintro j ⟨c,d,l⟩ _ hj ⟨q1,q2,q3⟩
  simp only at q1 q2 q3
  have hj:j < 4:=by omega
  unfold z26
  refine z02 (z9j q1 (by omega) _ ⟨by simp,by simp⟩) fun r3 h3=>ok_g (by simp only; omega) (z1z ⟨h3.2.mono (by omega),by simp; omega,fun y hy => ?_⟩)
  rcases List.mem_append.1 hy with hy | hy
  ·exact q3 y hy
  ·simp only [List.mem_singleton] at hy
   subst hy
   have h1:=h3.1
   simp only [List.mem_cons,List.not_mem_nil,or_false] at h1
   rcases h1 with h1 | h1 | h1 | h1 | h1 | h1 | h1 | h1 | h1 <;> rw [h1] <;> decide
 ·rintro ⟨c,d,l⟩ ⟨q1,q2,q3⟩
  simp only at q1 q2 q3
  exact z1z ⟨⟨by simp only; omega,q3⟩,q1.mono (by omega)⟩
theorem x8t {k:Int} {s:z0d} (h:SB k s) (hk:k≤100000):Ok (z61 s) fun r=>ScB r.1∧SB (k+20) r.2:=by
 unfold z61
 refine z02 (y74 h (by omega)) fun r2 h2=>z02 (y4n h2.2 (by omega) _ (by omega)) fun r4 h4 => ?_
 have hJ:∀ (l:List Bs) (c:List Int) (d:Int),l.length≤5∧(∀ x,x∈l→x.length≤1000)→SB (k+10) ⟨c,d⟩→Ok (z3o l c d) fun r=>ScB r.1∧SB (k+20) r.2:=by
  intro l c d hl hs
  unfold z3o z5d
  refine z02 (y4n hs (by omega) _ (by omega)) fun r6 h6=>y2r (fun _=>ok_g (by decide) (z1z ⟨⟨.inr rfl,by simp,fun x hx => ?_⟩,h6.mono (by omega)⟩)) (fun _=>z1z ⟨⟨.inl hl.1,by simp only; omega,fun x hx=>by have:=hl.2 x hx; omega⟩,h6.mono (by omega)⟩)
  rw [List.eq_of_mem_replicate hx]; decide
 refine y2r (fun _ => ?_) (fun _=>hJ _ _ _ ⟨by omega,h2.1.2⟩ (h4.mono (by omega)))
 refine z02 (w1k h4 (by omega)) fun r7 h7=>ok_g (by omega) (hJ _ _ _ ⟨by simp; omega,fun x hx => ?_⟩ (h7.2.mono (by omega)))
 rcases List.mem_append.1 hx with hx | hx
 ·exact h2.1.2 x hx
 ·simp only [List.mem_singleton] at hx
  subst hx; exact h7.1
end Go.Proofs.YtkckjgkfljgjpaaGreatDoor
