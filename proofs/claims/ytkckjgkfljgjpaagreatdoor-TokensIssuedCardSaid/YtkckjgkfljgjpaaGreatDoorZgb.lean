/- TokensIssued: the plain law. -/
import Derived.Test.YtkckjgkfljgjpaaGreatDoorTkZg
namespace Go.Proofs.YtkckjgkfljgjpaaGreatDoor
set_option linter.unusedVariables false
set_option linter.unusedSimpArgs false
set_option maxRecDepth 20000
theorem y7g (L:List Int):z81 L=some true:=by
 refine w3t ?_
 unfold z81
 have hs:SB 0 ⟨L,0⟩:=⟨by simp,by simp⟩
 refine z02 (x69 hs (by omega)) fun r2 h2=>z02 (x99 h2.2 (by omega)) fun r4 h4=>z02 (x3i h4.2 (by omega)) fun r6 h6=>z02 (x3i h6 (by omega)) fun r8 h8 => ?_
 obtain ⟨hl,_⟩:=h2
 obtain ⟨q,i1,i2,i3⟩:=x3q hl h4.1 r6.1
 rw [i3,x9s r2.1 hl]
 simp only [Option.bind_some]
 have J2:∀ t:Bs,t.length≤400000→Ok (z39 r2 r8 (sgF r2.1) t) (· = true):=fun t ht=>by
  obtain ⟨r,o1,o2,o3⟩:=w1x hl t ht r8.1
  have fin:∀ (c:z0e) (e:Int),ClB c→Ok (z38 (c,e) e c.Id c.Subject c.Issuer c.Parent c.Audience c.Scopes c.From c.To) (· = true):=fun c e hc=>by
   unfold z38 z36
   have hsm:z6y c (z0e.mk c.Id c.Subject c.Issuer c.Parent c.Audience c.Scopes c.From c.To)=some true:=w3k c hc
   rw [if_pos (by simp),hsm]
   simp only [Option.bind_some,if_true,x8m]
   exact z1z rfl
  unfold z39
  rw [o3]
  simp only [Option.bind_some]
  by_cases h0:sgF r2.1=0
  ·rw [if_pos (by simpa using h0),o1,if_neg (not_not_intro h0)]
   simp only [Option.bind_some]
   exact fin r.1 r.2 o2
  ·rw [if_neg (by simpa using h0),if_pos h0]
   exact fin y5j (sgF r2.1) y14
 have J3:∀ (p:Bs×Int) (b:Bool) (a:List Int) (n:Int),p.1.length≤10000→SB 500 ⟨a,n⟩→Ok (z28 r2 r8 p (sgF r2.1) b a n) (· = true):=fun p b a n hp hs=>by
  unfold z28
  refine y2r (fun _ => ?_) (fun _=>J2 _ (by omega))
  exact z02 (x0z hs (by omega)) fun r32 h32=>z02 (y4d h32.2 (by omega) _ ⟨by simp,by simp⟩) fun r34 h34=>z02 (x0l h34.2 (by omega) hl h32.1 _) fun r36 h36=>J2 _ (by have:=h36.1; omega)
 have J1:∀ (p:Bs×Int),p.1.length≤10000→Ok (z4a r2 r8 p (sgF r2.1) p.1 p.2) (· = true):=fun p hp=>by
  unfold z4a
  rw [if_neg (by simp)]
  refine y2r (fun _=>y2r (fun _=>J3 p _ _ _ hp (h8.mono (by omega))) (fun _=>z02 (y4n h8 (by omega) _ (by omega)) fun r24 h24=>J3 p _ _ _ hp (h24.mono (by omega)))) (fun _=>J3 p _ _ _ hp (h8.mono (by omega)))
 by_cases h0:sgF r2.1=0
 ·rw [if_pos (by simpa using h0),i1,if_neg (not_not_intro h0)]
  simp only [Option.bind_some]
  exact J1 q i2
 ·rw [if_neg (by simpa using h0),if_pos h0]
  exact J1 ([],sgF r2.1) (by simp)
end Go.Proofs.YtkckjgkfljgjpaaGreatDoor
