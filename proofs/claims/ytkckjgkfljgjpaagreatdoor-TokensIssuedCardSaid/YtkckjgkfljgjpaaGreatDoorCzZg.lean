/- Plain: claims that the stream gives, as text. -/
import Derived.Test.YtkckjgkfljgjpaaGreatDoorCyZg
import Derived.Test.YtkckjgkfljgjpaaGreatDoorCgZg
namespace Go.Proofs.YtkckjgkfljgjpaaGreatDoor
set_option linter.unusedVariables false
set_option linter.unusedSimpArgs false
set_option linter.unusedSectionVars false
set_option maxRecDepth 20000
structure CSm (c:z0e):Prop where
 id:c.Id.length≤10
 subject:c.Subject.length≤10
 issuer:c.Issuer.length≤10
 parent:c.Parent.length≤10
 aud:c.Audience.length≤5∧∀ x,x∈c.Audience→x.length≤1000
 sc:c.Scopes.length≤5∧∀ x,x∈c.Scopes→x.length≤1000
 fr:0≤c.From∧c.From≤1000
 tu:0≤c.To∧c.To≤1000
theorem CSm.wb {c:z0e} (h:CSm c):CWB c:=
 ⟨by have:=h.id; omega,by have:=h.subject; omega,by have:=h.issuer; omega,by have:=h.parent; omega,⟨by have:=h.aud.1; omega,fun x hx=>by have:=h.aud.2 x hx; omega⟩,⟨by have:=h.sc.1; omega,fun x hx=>by have:=h.sc.2 x hx; omega⟩,by have:=h.fr; omega,by have:=h.tu; omega⟩
theorem CSm.len {c:z0e} (h:CSm c):(txC c).length≤12000:=by
 have h1:=y96 1000 [32] c.Audience h.aud.2
 have h2:=y96 1000 [32] c.Scopes h.sc.2
 have h3:c.Audience.length * (1000+([32]:Bs).length)≤5 * 1001:=Nat.mul_le_mul h.aud.1 (by simp)
 have h4:c.Scopes.length * (1000+([32]:Bs).length)≤5 * 1001:=Nat.mul_le_mul h.sc.1 (by simp)
 have h5:=(y38 c.From (by have:=h.fr; omega)).1
 have h6:=(y38 c.To (by have:=h.tu; omega)).1
 have a1:=h.id; have a2:=h.subject; have a3:=h.issuer; have a4:=h.parent
 have hp:(parL c).length≤20:=by
  unfold parL
  split
  ·simp; omega
  ·simp
 have hf:(x2f c).length≤5020:=by
  unfold x2f
  split
  ·simp; omega
  ·simp
 have hm:(mayL c).length≤5020:=by
  unfold mayL
  split
  ·simp; omega
  ·simp
 rw [w2m h.wb]
 unfold hdC
 simp; omega
theorem y6c {x:Bs} {l:List Bs} (h:x∈l) (hl:l.all fun y=>decide (y.length≤10)):x.length≤10:=by
 have:=List.all_eq_true.1 hl x h
 simpa using this
theorem x0z {k:Int} {s:z0d} (h:SB k s) (hk:k≤100000):Ok (z1v s) fun r=>CSm r.1∧SB (k+20) r.2:=by
 unfold z1v
 refine z02 (z9j h (by omega) _ ⟨by simp,by simp⟩) fun r2 h2=>z02 (z9j h2.2 (by omega) _ ⟨by simp,by simp⟩) fun r4 h4=>z02 (z9j h4.2 (by omega) _ ⟨by simp,by simp⟩) fun r6 h6=>z02 (z9j h6.2 (by omega) _ ⟨by simp,by simp⟩) fun r8 h8=>z02 (y29 h8.2 (by omega) _ (by omega)) fun r10 h10 => ?_
 refine z02 (w4s _ _ ⟨h10.1.1,by have:=h10.1.2.1 (by omega); simp; omega⟩) fun x12 h12=>z02 (y74 h10.2 (by omega)) fun r14 h14 => ?_
 have hsh:Sh r14.1:=⟨by have:=h14.1.1; omega,fun x hx=>by have:=h14.1.2 x hx; omega⟩
 rw [y75 r14.1 hsh]
 simp only [Option.bind_some]
 refine z02 (y4d h14.2 (by omega) _ ⟨by simp,by simp⟩) fun r18 h18=>z02 (y4d h18.2 (by omega) _ ⟨by simp,by simp⟩) fun r20 h20 => ?_
 have b18:0≤r18.1∧r18.1≤100:=by
  have:=h18.1
  simp only [List.mem_cons,List.not_mem_nil,or_false] at this
  omega
 have b20:0≤r20.1∧r20.1≤200:=by
  have:=h20.1
  simp only [List.mem_cons,List.not_mem_nil,or_false] at this
  omega
 have e:wr (r18.1+r20.1)=r18.1+r20.1:=y1g (by omega)
 rw [e]
 refine z1z ⟨⟨y6c h2.1 (by decide),y6c h4.1 (by decide),y6c h6.1 (by decide),y6c h8.1 (by decide),?_,⟨?_,fun x hx => ?_⟩,by simp only; omega,by simp only; omega⟩,h20.2.mono (by omega)⟩
 ·simp only [List.mem_cons,List.not_mem_nil,or_false] at h12
  rcases h12 with rfl | rfl | rfl | rfl | rfl <;> simp
 ·have:=x47 r14.1
  have:=h14.1.1
  simp only; omega
 ·have:=((x46 r14.1 x).1 hx).1
  have:=h14.1.2 x this
  omega
theorem x3g (old new:Bs):∀ (k:Nat) (s:Bs),(Lib.replaceK old new k s).length≤s.length+k * new.length
 | 0,s=>by simp [Lib.replaceK]
 | k+1,s=>by
  rw [Lib.replaceK]
  split
  ·omega
  ·have ih:=x3g old new k (s.drop ((Lib.index s old).toNat+old.length))
   rw [List.length_append,List.length_append,List.length_take]
   rw [List.length_drop] at ih
   rw [Nat.succ_mul]
   omega
theorem w1r (s old new:Bs):(Lib.replace s old new 1).length≤s.length+new.length:=by
 unfold Lib.replace
 split
 ·omega
 ·have h1:=x3g old new (Lib.replaceNum s old 1) s
  have h2:Lib.replaceNum s old 1≤1:=by
   unfold Lib.replaceNum
   split
   ·omega
   ·simp
  have h3:=Nat.mul_le_mul_right new.length h2
  omega
theorem x2k {k:Int} {s:z0d} (h:SB k s) (hk:k≤10000):Ok (z5j s) fun r=>r.1.length≤48500∧SB (k+100) r.2:=by
 unfold z5j
 refine z02 (x0z h (by omega)) fun r2 h2 => ?_
 rw [y91 h2.1.wb]
 simp only [Option.bind_some]
 refine z02 (y4d h2.2 (by omega) _ ⟨by simp,by simp⟩) fun r6 h6 => ?_
 have b6:0≤r6.1∧r6.1≤2:=by
  have:=h6.1
  simp only [List.mem_cons,List.not_mem_nil,or_false] at this
  omega
 refine ok_g (by omega) (x81 (I:=fun j (q:Bs×(List Int)×Int)=>j≤2→(((j=0→q.1.length≤12000)∧(j=1→q.1.length≤24100)∧(j=2→q.1.length≤48300))∧SB (k+21+3 * (j:Int)) ⟨q.2.1,q.2.2⟩)) _ _ _ (fun _=>⟨⟨fun _=>h2.1.len,by omega,by omega⟩,by simpa using h6.2.mono (by omega)⟩) ?_ ?_)
 ·rintro j ⟨t8,c9,c10⟩ _ hj hI
  have hj2:j < 2:=by omega
  obtain ⟨i1,i2⟩:=hI (by omega)
  simp only at i1 i2
  unfold z6m
  have ht0:t8.length≤50000:=by
   have hc:j=0∨j=1:=by omega
   omega
  refine z02 (x1a i2 (by omega) t8 _ (by omega) (by simp)) fun r27 h27=>z1z fun _=>⟨?_,h27.2.mono (by omega)⟩
  have:=h27.1
  simp only [List.length_cons,List.length_nil] at this
  have hc:j=0∨j=1:=by omega
  simp only; omega
 ·rintro ⟨t8,c9,c10⟩ hI
  have hr:0+r6.1.toNat≤2:=by omega
  obtain ⟨i1,i2⟩:=hI hr
  simp only at i1 i2
  have ht8:t8.length≤48300:=by
   have hc:r6.1.toNat=0∨r6.1.toNat=1∨r6.1.toNat=2:=by omega
   rcases hc with hc | hc | hc <;> (rw [hc] at i1; omega)
  unfold z6n z3j
  refine z02 (y4n i2 (by omega) _ (by omega)) fun r14 h14=>y2r (fun _ => ?_) (fun _=>z1z ⟨by simp only; omega,h14.mono (by omega)⟩)
  refine z02 (z9j h14 (by omega) _ ⟨by simp,by simp⟩) fun r17 h17=>z02 (z9j h17.2 (by omega) _ ⟨by simp,by simp⟩) fun r19 h19 => ?_
  have l17:1≤r17.1.length:=by
   have:=h17.1
   simp only [List.mem_cons,List.not_mem_nil,or_false] at this
   rcases this with h | h | h | h | h <;> (rw [h]; simp)
  have l19:=y6c h19.1 (by decide)
  have:=w1r t8 r17.1 r19.1
  unfold y1w
  rw [if_pos ⟨show t8.length≤1000000 by omega,l17,by omega⟩]
  exact z1z ⟨by simp only; omega,h19.2.mono (by omega)⟩
end Go.Proofs.YtkckjgkfljgjpaaGreatDoor
