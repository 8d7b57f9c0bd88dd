/- Plain: claims that the stream gives, as text. -/
import Derived.Test.YtihjlkocfeoelaaGreatDoorCyZe
import Derived.Test.YtihjlkocfeoelaaGreatDoorCgZe
namespace Go.Proofs.YtihjlkocfeoelaaGreatDoor
set_option linter.unusedVariables false
set_option linter.unusedSimpArgs false
set_option linter.unusedSectionVars false
set_option maxRecDepth 20000
structure CSm (c:z0f):Prop where
 id:c.Id.length≤10
 subject:c.Subject.length≤10
 issuer:c.Issuer.length≤10
 parent:c.Parent.length≤10
 aud:c.Audience.length≤5∧∀ x,x∈c.Audience→x.length≤1000
 sc:c.Scopes.length≤5∧∀ x,x∈c.Scopes→x.length≤1000
 fr:0≤c.From∧c.From≤1000
 tu:0≤c.To∧c.To≤1000
theorem CSm.wb {c:z0f} (h:CSm c):CWB c:=
 ⟨by have:=h.id; omega,by have:=h.subject; omega,by have:=h.issuer; omega,by have:=h.parent; omega,⟨by have:=h.aud.1; omega,fun x hx=>by have:=h.aud.2 x hx; omega⟩,⟨by have:=h.sc.1; omega,fun x hx=>by have:=h.sc.2 x hx; omega⟩,by have:=h.fr; omega,by have:=h.tu; omega⟩
theorem CSm.len {c:z0f} (h:CSm c):(txC c).length≤12000:=by
 have h1:=y3v 1000 [32] c.Audience h.aud.2
 have h2:=y3v 1000 [32] c.Scopes h.sc.2
 have h3:c.Audience.length * (1000+([32]:Bs).length)≤5 * 1001:=Nat.mul_le_mul h.aud.1 (by simp)
 have h4:c.Scopes.length * (1000+([32]:Bs).length)≤5 * 1001:=Nat.mul_le_mul h.sc.1 (by simp)
 have h5:=(z9k c.From (by have:=h.fr; omega)).1
 have h6:=(z9k c.To (by have:=h.tu; omega)).1
 have a1:=h.id; have a2:=h.subject; have a3:=h.issuer; have a4:=h.parent
 have hp:(parL c).length≤20:=by
  unfold parL
  split
  ·simp; omega
  ·simp
 have hf:(y5f c).length≤5020:=by
  unfold y5f
  split
  ·simp; omega
  ·simp
 have hm:(mayL c).length≤5020:=by
  unfold mayL
  split
  ·simp; omega
  ·simp
 rw [x4f h.wb]
 unfold hdC
 simp; omega
theorem y3o {x:Bs} {l:List Bs} (h:x∈l) (hl:l.all fun y=>decide (y.length≤10)):x.length≤10:=by
 have:=List.all_eq_true.1 hl x h
 simpa using this
theorem y9a {k:Int} {s:z0d} (h:SB k s) (hk:k≤100000):Ok (z1n s) fun r=>CSm r.1∧SB (k+20) r.2:=by
 unfold z1n
 refine z07 (z7i h (by omega) _ ⟨by simp,by simp⟩) fun r2 h2=>z07 (z7i h2.2 (by omega) _ ⟨by simp,by simp⟩) fun r4 h4=>z07 (z7i h4.2 (by omega) _ ⟨by simp,by simp⟩) fun r6 h6=>z07 (z7i h6.2 (by omega) _ ⟨by simp,by simp⟩) fun r8 h8=>z07 (z9t h8.2 (by omega) _ (by omega)) fun r10 h10 => ?_
 refine z07 (x6c _ _ ⟨h10.1.1,by have:=h10.1.2.1 (by omega); simp; omega⟩) fun x12 h12=>z07 (y2d h10.2 (by omega)) fun r14 h14 => ?_
 have hsh:Sh r14.1:=⟨by have:=h14.1.1; omega,fun x hx=>by have:=h14.1.2 x hx; omega⟩
 rw [y2f r14.1 hsh]
 simp only [Option.bind_some]
 refine z07 (y2e h14.2 (by omega) _ ⟨by simp,by simp⟩) fun r18 h18=>z07 (y2e h18.2 (by omega) _ ⟨by simp,by simp⟩) fun r20 h20 => ?_
 have b18:0≤r18.1∧r18.1≤100:=by
  have:=h18.1
  simp only [List.mem_cons,List.not_mem_nil,or_false] at this
  omega
 have b20:0≤r20.1∧r20.1≤200:=by
  have:=h20.1
  simp only [List.mem_cons,List.not_mem_nil,or_false] at this
  omega
 have e:wr (r18.1+r20.1)=r18.1+r20.1:=z8s (by omega)
 rw [e]
 refine z2x ⟨⟨y3o h2.1 (by decide),y3o h4.1 (by decide),y3o h6.1 (by decide),y3o h8.1 (by decide),?_,⟨?_,fun x hx => ?_⟩,by simp only; omega,by simp only; omega⟩,h20.2.mono (by omega)⟩
 ·simp only [List.mem_cons,List.not_mem_nil,or_false] at h12
  rcases h12 with rfl | rfl | rfl | rfl | rfl <;> simp
 ·have:=y7g r14.1
  have:=h14.1.1
  simp only; omega
 ·have:=((y7f r14.1 x).1 hx).1
  have:=h14.1.2 x this
  omega
theorem y56 (old new:Bs):∀ (k:Nat) (s:Bs),(Lib.replaceK old new k s).length≤s.length+k * new.length
 | 0,s=>by simp [Lib.replaceK]
 | k+1,s=>by
  rw [Lib.replaceK]
  split
  ·omega
  ·have ih:=y56 old new k (s.drop ((Lib.index s old).toNat+old.length))
   rw [List.length_append,List.length_append,List.length_take]
   rw [List.length_drop] at ih
   rw [Nat.succ_mul]
   omega
theorem x3m (s old new:Bs):(Lib.replace s old new 1).length≤s.length+new.length:=by
 unfold Lib.replace
 split
 ·omega
 ·have h1:=y56 old new (Lib.replaceNum s old 1) s
  have h2:Lib.replaceNum s old 1≤1:=by
   unfold Lib.replaceNum
   split
   ·omega
   ·simp
  have h3:=Nat.mul_le_mul_right new.length h2
  omega
theorem y5j {k:Int} {s:z0d} (h:SB k s) (hk:k≤10000):Ok (z3o s) fun r=>r.1.length≤100000∧SB (k+100) r.2:=by
 unfold z3o
 refine z07 (y9a h (by omega)) fun r2 h2 => ?_
 rw [y6a h2.1.wb]
 simp only [Option.bind_some]
 refine z07 (y2e h2.2 (by omega) _ ⟨by simp,by simp⟩) fun r6 h6 => ?_
 have b6:0≤r6.1∧r6.1≤2:=by
  have:=h6.1
  simp only [List.mem_cons,List.not_mem_nil,or_false] at this
  omega
 refine ok_g (by omega) (x0t (I:=fun j (q:Bs×(List Int)×Int)=>j≤2→(q.1.length≤12000+12200 * j+12000 * (j * j)∧SB (k+21+3 * (j:Int)) ⟨q.2.1,q.2.2⟩)) _ _ _ (fun _=>⟨by simpa using h2.1.len,by simpa using h6.2.mono (by omega)⟩) ?_ ?_)
 ·rintro j ⟨t8,c9,c10⟩ _ hj hI
  have hj2:j < 2:=by omega
  obtain ⟨i1,i2⟩:=hI (by omega)
  simp only at i1 i2
  unfold z4d
  have ht0:t8.length≤50000:=by
   have hc:j=0∨j=1:=by omega
   rcases hc with rfl | rfl <;> omega
  refine z07 (y9q i2 (by omega) t8 _ (by omega) (by simp)) fun r27 h27=>z2x fun _=>⟨?_,h27.2.mono (by omega)⟩
  have:=h27.1
  simp only [List.length_cons,List.length_nil] at this
  have hc:j=0∨j=1:=by omega
  rcases hc with rfl | rfl <;> (simp only; omega)
 ·rintro ⟨t8,c9,c10⟩ hI
  have hr:0+r6.1.toNat≤2:=by omega
  obtain ⟨i1,i2⟩:=hI hr
  simp only at i1 i2
  have ht8:t8.length≤90000:=by
   have hc:r6.1.toNat=0∨r6.1.toNat=1∨r6.1.toNat=2:=by omega
   rcases hc with hc | hc | hc <;> (rw [hc] at i1; simp at i1; omega)
  unfold z4e z2c
  refine z07 (y1q i2 (by omega) _ (by omega)) fun r14 h14=>y0u (fun _ => ?_) (fun _=>z2x ⟨by simp only; omega,h14.mono (by omega)⟩)
  refine z07 (z7i h14 (by omega) _ ⟨by simp,by simp⟩) fun r17 h17=>z07 (z7i h17.2 (by omega) _ ⟨by simp,by simp⟩) fun r19 h19 => ?_
  have l17:1≤r17.1.length:=by
   have:=h17.1
   simp only [List.mem_cons,List.not_mem_nil,or_false] at this
   rcases this with h | h | h | h | h <;> (rw [h]; simp)
  have l19:=y3o h19.1 (by decide)
  have:=x3m t8 r17.1 r19.1
  unfold z7p
  rw [if_pos ⟨show t8.length≤1000000 by omega,l17,by omega⟩]
  exact z2x ⟨by simp only; omega,h19.2.mono (by omega)⟩
end Go.Proofs.YtihjlkocfeoelaaGreatDoor
