/- Plain: the law ScopesCover is true for every list of numbers. -/
import Derived.Test.YticadaaoggpenaaGreatDoorScZd
namespace Go.Proofs.YticadaaoggpenaaGreatDoor
set_option linter.unusedVariables false
set_option maxRecDepth 20000
def mtS (b:List Bs) (x:Bs):List Bs:=b.flatMap fun y=>if cvB x y=true then [y] else if cvB y x=true then [x] else []
def mtL (a b:List Bs):List Bs:=a.flatMap (mtS b)
section
variable (a b:List Bs) (ha:Sh a) (hb:Sh b) (hl:a.length≤50∧b.length≤50)
include ha hb
omit hb in
theorem w0t:z87 a=some (if scF a≠0 then ([],scF a) else (lsP a,0)):=by
 unfold z87
 rw [w1n a ha]
 simp only [Option.bind_some,w3i a ha]
 by_cases h:scF a=0 <;> simp [h]
include hl
end
theorem w8c {a:List Bs} (h:scF a=0):a.length≤50∧a.all scP=true:=by
 unfold scF at h
 split at h
 ·cases h
 ·split at h
  ·rename_i h1 h2; exact ⟨by omega,h2⟩
  ·cases h
theorem w3v (l:List Bs) (h:l.length≤1000000000):z5h l l=some true:=
 x4h (fun x7 x10:Bs=>decide (x7≠x10)) (fun x=>by simp) l h

def ScB (l:List Bs):Prop:=(l.length≤5∨l=List.replicate 51 [])∧Sh l
theorem w24 {k:Int} {s:z0d} (h:SB k s) (hk:k≤1000000):Ok (z6q s) fun r=>r.1.length≤1000∧SB (k+2) r.2:=by
 unfold z6q y07
 refine z1f (y31 h (by omega) _ (by omega)) fun r hr=>z9q (fun _ => ?_) (fun _ => ?_)
 ·rw [if_pos (by decide)]
  simp only [Option.bind_some]
  refine ok_g (by rw [Lib.repeatL_length]; decide) (z1f (y1p hr (by omega) _ ⟨by simp,by simp⟩) fun r3 h3=>z15 ⟨?_,h3.2.mono (by omega)⟩)
  have h1:=h3.1
  simp only [List.mem_cons,List.not_mem_nil,or_false] at h1
  simp only
  rcases h1 with h1 | h1 | h1 | h1 | h1 | h1 | h1 | h1 <;> rw [h1] <;> first | decide | (rw [List.length_append,Lib.repeatL_length]; decide)
 ·refine z1f (y1p hr (by omega) _ ⟨by simp,by simp⟩) fun r3 h3=>z15 ⟨?_,h3.2.mono (by omega)⟩
  have h1:=h3.1
  simp only [List.mem_cons,List.not_mem_nil,or_false] at h1
  simp only
  rcases h1 with h1 | h1 | h1 | h1 | h1 | h1 | h1 | h1 | h1 | h1 <;> rw [h1] <;> decide
theorem x1b {k:Int} {s:z0d} (h:SB k s) (hk:k≤1000000):Ok (z2k s) fun r=>(r.1.length≤4∧∀ x,x∈r.1→x.length≤1000)∧SB (k+5) r.2:=by
 unfold z2k
 refine z1f (y9a h (by omega) 0 4 (by omega)) fun r2 h2=>ok_g (by omega) ?_
 refine x6p (fun (j:Nat) (q:(List Int)×Int×(List Bs))=>SB (k+1+(j:Int)) ⟨q.1,q.2.1⟩∧q.2.2.length≤j∧∀ x,x∈q.2.2→x.length≤1000) _ 0 _ ⟨by simpa using h2.2,by simp,by simp⟩ ?_ ?_
 ·rintro j ⟨c,d,l⟩ _ hj ⟨q1,q2,q3⟩
  simp only at q1 q2 q3
  have hj:j < 4:=by omega
  unfold z3n
  refine z1f (y1p q1 (by omega) _ ⟨by simp,by simp⟩) fun r3 h3=>ok_g (by simp only; omega) (z15 ⟨h3.2.mono (by omega),by simp; omega,fun y hy => ?_⟩)
  rcases List.mem_append.1 hy with hy | hy
  ·exact q3 y hy
  ·simp only [List.mem_singleton] at hy
   subst hy
   have h1:=h3.1
   simp only [List.mem_cons,List.not_mem_nil,or_false] at h1
   rcases h1 with h1 | h1 | h1 | h1 | h1 | h1 | h1 | h1 | h1 <;> rw [h1] <;> decide
 ·rintro ⟨c,d,l⟩ ⟨q1,q2,q3⟩
  simp only at q1 q2 q3
  exact z15 ⟨⟨by simp only; omega,q3⟩,q1.mono (by omega)⟩
theorem x94 {k:Int} {s:z0d} (h:SB k s) (hk:k≤100000):Ok (z59 s) fun r=>ScB r.1∧SB (k+20) r.2:=by
 unfold z59
 refine z1f (x1b h (by omega)) fun r2 h2=>z1f (y31 h2.2 (by omega) _ (by omega)) fun r4 h4 => ?_
 have hJ:∀ (l:List Bs) (c:List Int) (d:Int),l.length≤5∧(∀ x,x∈l→x.length≤1000)→SB (k+10) ⟨c,d⟩→Ok (z3w l c d) fun r=>ScB r.1∧SB (k+20) r.2:=by
  intro l c d hl hs
  unfold z3w z4u
  refine z1f (y31 hs (by omega) _ (by omega)) fun r6 h6=>z9q (fun _=>ok_g (by decide) (z15 ⟨⟨.inr rfl,by simp,fun x hx => ?_⟩,h6.mono (by omega)⟩)) (fun _=>z15 ⟨⟨.inl hl.1,by simp only; omega,fun x hx=>by have:=hl.2 x hx; omega⟩,h6.mono (by omega)⟩)
  rw [List.eq_of_mem_replicate hx]; decide
 refine z9q (fun _ => ?_) (fun _=>hJ _ _ _ ⟨by omega,h2.1.2⟩ (h4.mono (by omega)))
 refine z1f (w24 h4 (by omega)) fun r7 h7=>ok_g (by omega) (hJ _ _ _ ⟨by simp; omega,fun x hx => ?_⟩ (h7.2.mono (by omega)))
 rcases List.mem_append.1 hx with hx | hx
 ·exact h2.1.2 x hx
 ·simp only [List.mem_singleton] at hx
  subst hx; exact h7.1
end Go.Proofs.YticadaaoggpenaaGreatDoor
