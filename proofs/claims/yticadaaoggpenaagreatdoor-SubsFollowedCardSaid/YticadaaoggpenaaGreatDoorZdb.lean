/- SubsFollowed: the plain law. -/
import Derived.Test.YticadaaoggpenaaGreatDoorEwZd
namespace Go.Proofs.YticadaaoggpenaaGreatDoor
set_option linter.unusedVariables false
set_option linter.unusedSimpArgs false
set_option maxRecDepth 20000
theorem x8a {k:Int} {s:z0d} (h:SB k s) (hk:k≤100000):Ok (z4o s) fun r=>SB (k+3) r.2:=by
 unfold z4o
 refine z1f (y2s h (by omega) _ ⟨by simp,by simp⟩) fun r2 h2=>z1f (y2s h2.2 (by omega) _ ⟨by simp,by simp⟩) fun r4 h4=>z1f (y2s h4.2 (by omega) _ ⟨by simp,by simp⟩) fun r6 h6=>z15 (h6.2.mono (by omega))
theorem w10 {k:Int} {s:z0d} (h:SB k s) (hk:k≤100000):Ok (z36 s) fun r=>r.1.length≤100∧SB (k+1) r.2:=by
 unfold z36
 refine z1f (y1p h (by omega) _ ⟨by simp,by simp⟩) fun r2 h2=>z15 ⟨?_,h2.2⟩
 have h1:=h2.1
 simp only [List.mem_cons,List.not_mem_nil,or_false] at h1
 rcases h1 with h1 | h1 | h1 | h1 | h1 | h1 <;> rw [h1] <;> simp
theorem x76 {k:Int} {s:z0d} (h:SB k s) (hk:k≤100000):Ok (z27 s) fun r=>r.1.length≤100∧SB (k+1) r.2:=by
 unfold z27
 refine z1f (y1p h (by omega) _ ⟨by simp,by simp⟩) fun r2 h2=>z15 ⟨?_,h2.2⟩
 have h1:=h2.1
 simp only [List.mem_cons,List.not_mem_nil,or_false] at h1
 rcases h1 with h1 | h1 | h1 | h1 | h1 <;> rw [h1] <;> simp
theorem y34 {a b:Int}:or2 a b=0↔a=0∧b=0:=by
 unfold or2
 split
 ·rename_i h
  exact ⟨fun k=>absurd k h,fun k=>absurd k.1 h⟩
 ·rename_i h
  exact ⟨fun k=>⟨by simpa using h,k⟩,fun k=>k.2⟩
theorem x9z {c:z0g} {apps:List z0t} {x:List z0e} {s:z0d} (hb:CB c) (ha:AB apps) (hx:∀ e,e∈x→EB e) {r6 r8:Bs×z0d} {r10:Int×z0d} (h6:r6.1.length≤100) (h8:r8.1.length≤100)
  {r12:z0h×Int} (e12:y1e c apps x r6.1 r8.1 r10.1=some r12) {r14:List Int×Int} (e14:z9t c apps x r10.1=some r14) {r16:List Bs×Int} (e16:y0k c apps x r6.1 r10.1=some r16)
  {v37:Int} (e37:v37=or2 (eF c apps x) (or2 (if (hasA apps r6.1 && hasP c r8.1)=true then 0 else 8) (moF r10.1))) :
  Ok (z39 (c,apps,x,eF c apps x,s) r6 r8 r10 r12 r14 r16 v37) (· = true):=by
 rw [x59 hb ha hx _ _ _ ⟨by omega,by omega⟩] at e12
 rw [x01 hb ha hx] at e14
 rw [x3y hb ha hx _ _ (by omega)] at e16
 rw [← e37] at e12
 have hfin:∀ (q:z0h) (a b:Int) (u:List Int) (z:List Bs) (g:Int),u.length≤1000000000→z.length≤1000000000→Ok (z38 (q,a) (u,b) (z,g) a b q.State q.Plan q.Since q.First u g z) (· = true):=fun q a b u z g hu hz=>by
  unfold z38 z2e
  rw [if_pos (by simp),if_pos (by simp),if_pos (by simp),x8n u hu]
  simp only [Option.bind_some,if_true]
  rw [if_pos (by simp),w3v z hz]
  simp only [Option.bind_some,if_true,w0b]
  exact z15 rfl
 have hne:(if fdx (fun x:z0t=>decide (x.Key=r6.1)) 0 apps < 0 then (8:Int) else 0)=if hasA apps r6.1=true then 0 else 8:=by
  have h:=y5v (fun x:z0t=>decide (x.Key=r6.1)) apps
  have h':decide (fdx (fun x:z0t=>decide (x.Key=r6.1)) 0 apps < 0) = !hasA apps r6.1:=h
  by_cases hh:fdx (fun x:z0t=>decide (x.Key=r6.1)) 0 apps < 0
  ·rw [if_pos hh]
   rw [decide_eq_true hh] at h'
   have:hasA apps r6.1=false:=by simpa using h'.symm
   rw [this]; simp
  ·rw [if_neg hh]
   rw [decide_eq_false hh] at h'
   have:hasA apps r6.1=true:=by simpa using h'.symm
   rw [this]; simp
 unfold z39
 simp only [w4o,w8k,w4s,y69 apps r6.1 (by have:=ha.1; omega),w4z,Option.bind_some,decide_eq_true_eq,hne]
 have b1:∀ st,(wtI st 0 x).length≤1000000000∨eF c apps x≠0:=fun st=>by
  by_cases h:eF c apps x=0
  ·have h1:=(y46 h).1.2.2
   have h2:=(y9c st x 0).2
   exact .inl (by omega)
  ·exact .inr h
 by_cases k1:eF c apps x=0
 ·have k1':=(y46 k1).1.2.2
  by_cases k2:moF r10.1=0
  ·have hv:=w3e k2
   have f2:or2 (eF c apps x) (moF r10.1)=0:=y34.2 ⟨k1,k2⟩
   rw [if_neg (by simpa using f2)] at e14
   cases e14
   rw [f2]
   obtain ⟨g1,g2⟩:=x3h hb ha hx r10.1 r6.1 k1 (runS c (fun _ _=>z9x) (cutT r10.1 x))
   have bz:=w5g _ g2.1
   have J3:∀ {q:z0h} {a:Int},Ok (z2x (c,apps,x,eF c apps x,s) r6 r10 (q,a) (wtI (runS c (fun _ _=>z9x) (cutT r10.1 x)) 0 x,0) r16 a 0 (or2 (eF c apps x) (or2 (if hasA apps r6.1=true then 0 else 8) (moF r10.1))) q.State q.Plan q.Since q.First (wtI (runS c (fun _ _=>z9x) (cutT r10.1 x)) 0 x)) (· = true):=fun {q a}=>by
    have bw:=(y9c (runS c (fun _ _=>z9x) (cutT r10.1 x)) x 0).2
    unfold z2x
    by_cases k3:or2 (eF c apps x) (or2 (if hasA apps r6.1=true then 0 else 8) (moF r10.1))=0
    ·rw [if_neg (by simpa using k3)] at e16
     cases e16
     rw [if_pos (by simpa using k3),x5e hb ha hx _ _ k1 hv]
     simp only [Option.bind_some]
     have bw':(wtI (runS c (fun _ _=>z9x) (cutT r10.1 x)) 0 x).length≤1000000000:=by omega
     exact hfin _ _ _ _ _ _ bw' (Nat.le_trans bz (by omega))
    ·rw [if_pos k3] at e16
     cases e16
     rw [if_neg (by simpa using k3)]
     have bw':(wtI (runS c (fun _ _=>z9x) (cutT r10.1 x)) 0 x).length≤1000000000:=by omega
     exact hfin _ _ _ _ _ _ bw' (by simp)
   have J2:∀ {q:z0h} {a:Int},Ok (z2y (c,apps,x,eF c apps x,s) r6 r10 (q,a) (wtI (runS c (fun _ _=>z9x) (cutT r10.1 x)) 0 x,0) r16 a 0 (or2 (eF c apps x) (or2 (if hasA apps r6.1=true then 0 else 8) (moF r10.1))) q.State q.Plan q.Since q.First) (· = true):=fun {q a}=>by
    unfold z2y
    rw [if_pos (by simp),x3k hb ha hx _ k1 hv]
    simp only [Option.bind_some]
    exact J3
   by_cases k4:v37=0
   ·rw [if_neg (by simpa using k4)] at e12
    cases e12
    rw [if_pos k4,x9e hb ha hx _ _ _ k1 hv]
    simp only [Option.bind_some]
    rw [k4]
    exact J2
   ·rw [if_pos k4] at e12
    cases e12
    rw [if_neg k4]
    exact J2 (q:=z0h.mk 0 [] 0 0)
  ·have f2:or2 (eF c apps x) (moF r10.1)≠0:=fun h=>k2 (y34.1 h).2
   have f3:or2 (eF c apps x) (or2 (if hasA apps r6.1=true then 0 else 8) (moF r10.1))≠0:=fun h=>k2 (y34.1 (y34.1 h).2).2
   have f1:v37≠0:=fun h=>k2 (y34.1 (y34.1 (e37.symm.trans h)).2).2
   rw [if_pos f1] at e12
   rw [if_pos f2] at e14
   rw [if_pos f3] at e16
   cases e12; cases e14; cases e16
   rw [if_neg f1]
   unfold z2y
   rw [if_neg (by simpa using f2)]
   unfold z2x
   rw [if_neg (by simpa using f3)]
   exact hfin (z0h.mk 0 [] 0 0) _ _ _ _ _ (by simp) (by simp)
 ·have f2:or2 (eF c apps x) (moF r10.1)≠0:=fun h=>k1 (y34.1 h).1
  have f3:or2 (eF c apps x) (or2 (if hasA apps r6.1=true then 0 else 8) (moF r10.1))≠0:=fun h=>k1 (y34.1 h).1
  have f1:v37≠0:=fun h=>k1 (y34.1 (e37.symm.trans h)).1
  rw [if_pos f1] at e12
  rw [if_pos f2] at e14
  rw [if_pos f3] at e16
  cases e12; cases e14; cases e16
  rw [if_neg f1]
  unfold z2y
  rw [if_neg (by simpa using f2)]
  unfold z2x
  rw [if_neg (by simpa using f3)]
  exact hfin (z0h.mk 0 [] 0 0) _ _ _ _ _ (by simp) (by simp)
theorem y7k (L:List Int):z8v L=some true:=by
 refine w5p ?_
 unfold z8v
 have hs:SB 0 ⟨L,0⟩:=⟨by simp,by simp⟩
 refine z1f (y9a hs (by omega) _ _ (by omega)) fun r2 h2=>z1f (w0h h2.2 (by omega) (by omega)) fun r4 h4 => ?_
 obtain ⟨c,apps,x,f,s⟩:=r4
 obtain ⟨⟨hc,ha,hx,hf⟩,hs4⟩:=h4
 simp only at hc ha hx hf hs4
 subst hf
 have hb:=hc.cb
 have hab:=w8l ha
 refine z1f (w10 hs4 (by omega)) fun r6 h6=>z1f (x76 h6.2 (by omega)) fun r8 h8=>z1f (x8a h8.2 (by omega)) fun r10 h10 => ?_
 have e12:=x59 hb hab hx.2 r6.1 r8.1 r10.1 ⟨by have:=h6.1; omega,by have:=h8.1; omega⟩
 have e14:=x01 hb hab hx.2 r10.1
 have e16:=x3y hb hab hx.2 r6.1 r10.1 (by have:=h6.1; omega)
 simp only []
 rw [e12,e14,e16]
 simp only [Option.bind_some,y69 apps r6.1 (by have:=hab.1; omega),y9w c r8.1 hb.np,w4z,w4o,w4s]
 have hA:decide (fdx (fun x:z0t=>decide (x.Key=r6.1)) 0 apps < 0) = !hasA apps r6.1:=y5v (fun x:z0t=>decide (x.Key=r6.1)) apps
 have hP:decide (fdx (fun x:z0m=>decide (x.Key=r8.1)) 0 c.Products < 0) = !hasP c r8.1:=y5v (fun x:z0m=>decide (x.Key=r8.1)) c.Products
 rw [hA,hP]
 cases hasA':hasA apps r6.1
 ·rw [if_pos (by simp)]
  refine x9z hb hab hx.2 h6.1 h8.1 (by rw [e12,hasA']) e14 (by rw [e16,hasA']) ?_
  rw [hasA']; simp
 ·rw [if_neg (by simp)]
  refine x9z hb hab hx.2 h6.1 h8.1 (by rw [e12,hasA']) e14 (by rw [e16,hasA']) ?_
  rw [hasA']
  cases hasP c r8.1 <;> simp
end Go.Proofs.YticadaaoggpenaaGreatDoor
