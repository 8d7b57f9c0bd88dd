/- UsesAdded: the plain law. -/
import Derived.Test.YthmmalklamiefaaGreatDoorUsZc
namespace Go.Proofs.YthmmalklamiefaaGreatDoor
set_option linter.unusedVariables false
set_option linter.unusedSimpArgs false
set_option maxRecDepth 20000
def UG (x:z0e):Prop:=atB x.Month∧x.App.length≤1000000∧x.Product.length≤1000000
theorem x5v {k:Int} {s:z0d} (h:SB k s) (hk:k≤10000) {apps:List z0s} (ha:apps.length≤4∧∀ x,x∈apps→x.Key.length≤100∧x.Owner.length≤100):Ok (z6c s apps) fun r=>(r.1.length≤24∧∀ x,x∈r.1→UG x)∧SB (k+48) r.2:=by
 unfold z6c
 refine ok_g (by omega) (x3g (I:=fun j (q:(List Int)×Int×(List z0e))=>SB (k+16 * (j:Int)) ⟨q.1,q.2.1⟩∧q.2.2.length≤8 * j∧∀ x,x∈q.2.2→UG x) _ _ _ ⟨by simpa using h,by simp,by simp⟩ ?_ ?_)
 ·rintro j ⟨c3,c4,l5⟩ _ hj ⟨i1,i2,i3⟩
  simp only at i1 i2 i3
  unfold z7p
  refine ok_g (by omega) (x0e (I:=fun t (q:(List Int)×Int×(List z0e))=>SB (k+16 * (j:Int)+4 * (t:Int)) ⟨q.1,q.2.1⟩∧q.2.2.length≤8 * j+2 * t∧∀ x,x∈q.2.2→UG x) apps 0 _ ⟨by simpa using i1,by simpa using i2,i3⟩ ?_ ?_)
  ·rintro t x ⟨c10,c11,l12⟩ _ hx ⟨j1,j2,j3⟩
   simp only at j1 j2 j3
   have hx':apps[t]?=some x:=by simpa using hx
   have htl:=z9l hx'
   have hxk:=ha.2 x (List.mem_of_getElem? hx')
   unfold z7o
   refine ok_g (by simp) (x0e (I:=fun w (q:(List Int)×Int×(List z0e))=>SB (k+16 * (j:Int)+4 * (t:Int)+2 * (w:Int)) ⟨q.1,q.2.1⟩∧q.2.2.length≤8 * j+2 * t+w∧∀ x,x∈q.2.2→UG x) _ 0 _ ⟨by simpa using j1,by simpa using j2,j3⟩ ?_ ?_)
   ·rintro w y ⟨c19,c20,l21⟩ _ hy ⟨w1,w2,w3⟩
    simp only at w1 w2 w3
    have hwl:w < 2:=by have:=z9l hy; simpa using this
    have hyl:y.length≤100:=by
     have:y∈([[109,97,112,115],[115,104,111,112]]:List Bs):=List.mem_of_getElem? hy
     simp only [List.mem_cons,List.not_mem_nil,or_false] at this
     rcases this with rfl | rfl <;> simp
    unfold z7n z4n
    refine z1c (y4y w1 (by omega) _ (by omega)) fun r28 h28=>y0s (fun _ => ?_) (fun _ => ?_)
    ·refine z1c (y4c h28 (by omega) _ ⟨by simp,by simp⟩) fun r31 h31=>ok_g (show l21.length+1≤1000000000 by omega) (z13 ⟨h31.2.mono (by omega),by simp; omega,fun z hz => ?_⟩)
     rcases List.mem_append.1 hz with hz | hz
     ·exact w3 z hz
     ·simp only [List.mem_cons,List.not_mem_nil,or_false] at hz
      rw [hz]
      exact ⟨⟨by simp only; omega,by simp only; omega⟩,by simp only; omega,by simp only; omega⟩
    ·exact z13 ⟨h28.mono (by omega),by simp; omega,w3⟩
   ·rintro ⟨c19,c20,l21⟩ ⟨w1,w2,w3⟩
    simp only [List.length_cons,List.length_nil] at w1 w2 w3
    exact z13 ⟨w1.mono (by omega),by simp; omega,w3⟩
  ·rintro ⟨c10,c11,l12⟩ ⟨j1,j2,j3⟩
   simp only at j1 j2 j3
   have:=ha.1
   exact z13 ⟨j1.mono (by omega),by simp; omega,j3⟩
 ·rintro ⟨c3,c4,l5⟩ ⟨i1,i2,i3⟩
  simp only at i1 i2 i3
  exact z13 ⟨⟨by simp; omega,i3⟩,i1.mono (by omega)⟩
theorem w0l {k:Int} {s:z0d} (h:SB k s) (hk:k≤10000) {apps:List z0s} (ha:apps.length≤4∧∀ x,x∈apps→x.Key.length≤100∧x.Owner.length≤100):Ok (z64 s apps) fun r=>(r.1.length≤24∧∀ x,x∈r.1→UG x)∧SB (k+60) r.2:=by
 unfold z64
 refine z1c (x5v h hk ha) fun r3 h3 => ?_
 have J:∀ v (s':z0d),(v=true→0 < r3.1.length)→SB (k+49) s'→Ok (z49 r3 v s'.L s'.at_) fun r=>(r.1.length≤24∧∀ x,x∈r.1→UG x)∧SB (k+60) r.2:=fun v s' hv hs'=>by
  unfold z49 z6v
  refine y0s (fun hvv => ?_) (fun _=>z13 ⟨h3.1,hs'.mono (by omega)⟩)
  have h0:=hv hvv
  refine z1c (y60 hs' (by omega) _ (by have:=h3.1.1; omega)) fun r14 h14 => ?_
  have b1:=h14.1.1
  have b2:=h14.1.2.1 (by omega)
  obtain ⟨x,x1,x2,x3⟩:=x5d r3.1 r14.1 ⟨b1,b2⟩
  rw [x1]
  simp only [Option.bind_some]
  refine z1c (y2x h14.2 (by omega) _ ⟨by simp,by simp⟩) fun r18 h18=>z1c (y8y h18.2 (by omega) _ _ (by omega)) fun r20 h20=>z1c (y8y h20.2 (by omega) _ _ (by omega)) fun r22 h22 => ?_
  have hxG:=h3.1.2 x x2
  have h18l:r18.1.length≤1000000:=by
   have:=h18.1
   simp only [List.mem_cons,List.not_mem_nil,or_false] at this
   rcases this with h | h
   ·rw [h]; exact hxG.2.1
   ·rw [h]; simp
  refine z13 ⟨⟨by simp only [List.length_set]; exact h3.1.1,fun z hz => ?_⟩,h22.2.mono (by omega)⟩
  have hnew:∀ m:Int,atB m→∀ cl,UG (z0e.mk r18.1 x.Product m cl):=fun m hm cl=>⟨hm,h18l,hxG.2.2⟩
  have hm20:atB r20.1:=⟨by have:=h20.1; omega,by have:=h20.1; omega⟩
  rcases List.mem_or_eq_of_mem_set hz with hz | rfl
  ·rcases List.mem_or_eq_of_mem_set hz with hz | rfl
   ·rcases List.mem_or_eq_of_mem_set hz with hz | rfl
    ·exact h3.1.2 z hz
    ·exact hnew _ hxG.1 _
   ·exact hnew _ hm20 _
  ·exact hnew _ hm20 _
 refine y0s (fun hp=>z1c (y4y h3.2 (by omega) _ (by omega)) fun r7 h7=>J _ _ (fun _=>by simpa using hp) (h7.mono (by omega))) (fun _=>J false r3.2 (by simp) (h3.2.mono (by omega)))
theorem w8s (a b c d:Int):z73 [a,b,c,d]=some (or2 a (or2 b (or2 c d))):=by
 unfold z73 or2
 rw [if_pos (by simp)]
 simp only [forL,y2r,y2s]
 by_cases h1:a=0 <;> by_cases h2:b=0 <;> by_cases h3:c=0 <;> by_cases h4:d=0 <;> simp [h1,h2,h3,h4,after]
theorem w3d {c:z0i} {apps:List z0s} (hb:CB c) (ha:AB apps) (u v:List z0e):y3a c apps u v=if usF c apps u≠0 then some ([],usF c apps u) else if usF c apps v≠0 then some ([],usF c apps v) else y3j u v:=by
 unfold y3a
 rw [if_pos (by omega)]
 show (y2d c apps u v 0).bind _=_
 unfold y2d
 show ((z52 c apps u).bind _).bind _=_
 rw [y8o hb ha]
 simp only [Option.bind_some]
 by_cases h1:usF c apps u=0
 ·rw [if_neg (by simpa using h1),if_neg (not_not_intro h1)]
  show (y2d c apps u v 1).bind _=_
  unfold y2d
  show ((z52 c apps v).bind _).bind _=_
  rw [y8o hb ha]
  simp only [Option.bind_some]
  by_cases h2:usF c apps v=0
  ·rw [if_neg (by simpa using h2),if_neg (not_not_intro h2)]
   rfl
  ·rw [if_pos (by simpa using h2),if_pos h2]
   rfl
 ·rw [if_pos (by simpa using h1),if_pos h1]
  rfl
theorem w0n {c:z0i} {apps:List z0s} {x:List z0f} {s:z0d} (hb:CB c) (ha:AB apps) (hx:∀ e,e∈x→EB e) {r6 r8:List z0e×z0d} {r10 r12:Bs×z0d} {r14:Int×z0d} (h6:r6.1.length≤24∧∀ x,x∈r6.1→UG x) (h8:r8.1.length≤24∧∀ x,x∈r8.1→UG x) (h10:r10.1.length≤100) (h12:r12.1.length≤100)
  {r16:List z0e×Int} (e16:y3a c apps r6.1 r8.1=some r16) {r18:Int×Int} (e18:y0d c apps x r6.1 r10.1 r12.1 r14.1=some r18)
  {v44:Int} (e44:v44=or2 (eF c apps x) (or2 (usF c apps r6.1) (or2 (if (hasA apps r10.1 && hasP c r12.1)=true then 0 else 8) (moF r14.1)))) :
  Ok (z6i (c,apps,x,eF c apps x,s) r6 r8 r10 r12 r14 r16 r18 (usF c apps r6.1) v44) (· = true):=by
 have hfin:∀ (u:List z0e) (n e f:Int),u.length≤1000000000→Ok (z6h (u,e) (n,f) f n e u) (· = true):=fun u n e f hu=>by
  unfold z6h z4j
  rw [if_pos (by simp),w2m u hu]
  simp only [Option.bind_some,if_true]
  rw [if_pos (by simp),if_pos (by simp),w1l]
  exact z13 rfl
 have J2:Ok (z41 (c,apps,x,eF c apps x,s) r6 r8 r16 r18 (usF c apps r6.1) r18.2 r18.1) (· = true):=by
  unfold z41
  simp only [x0u hb ha (fun y hy=>(h8.2 y hy).1),w9m,Option.bind_some]
  rw [w3d hb ha] at e16
  by_cases k1:usF c apps r6.1=0
  ·rw [if_neg (not_not_intro k1)] at e16
   by_cases k2:usF c apps r8.1=0
   ·rw [if_neg (not_not_intro k2)] at e16
    obtain ⟨q,q1,q2,q3⟩:=w3c (fun y hy=>(h6.2 y hy).1) (fun y hy=>(h8.2 y hy).1) (by have:=h6.1; have:=h8.1; omega)
    rw [q1] at e16
    cases e16
    rw [if_pos (by simp [or2,k1,k2]),q2]
    simp only [Option.bind_some]
    exact hfin _ _ _ _ (by omega)
   ·rw [if_pos k2] at e16
    cases e16
    have e:or2 (usF c apps r6.1) (usF c apps r8.1)=usF c apps r8.1:=by unfold or2; rw [if_neg (not_not_intro k1)]
    rw [e,if_neg (by simpa using k2)]
    exact hfin _ _ _ _ (by simp)
  ·rw [if_pos k1] at e16
   cases e16
   have e:or2 (usF c apps r6.1) (usF c apps r8.1)=usF c apps r6.1:=by unfold or2; rw [if_pos k1]
   rw [e,if_neg (by simpa using k1)]
   exact hfin _ _ _ _ (by simp)
 unfold z6i
 rcases w10 hb ha hx h6.2 (by have:=h6.1; omega) r10.1 r12.1 r14.1 ⟨by omega,by omega⟩ v44 e44 with ⟨k1,k2⟩ | ⟨k1,⟨k2,k3⟩ | ⟨k2,n,k3,k4⟩⟩
 ·rw [k2] at e18
  cases e18
  rw [if_neg (by simpa using k1)]
  exact J2
 ·have k0:=y51.1 (e44.symm.trans k1)
  have hv:=x4o (y51.1 (y51.1 k0.2).2).2
  rw [if_pos (by simpa using k1),w5n hb ha hx _ _ _ k0.1 hv]
  rw [k3] at e18
  cases e18
  simp only [Option.bind_some,w3j]
  rw [if_pos (show decide ((runS c (fun _ _=>y26) (cutT r14.1 x) r10.1 r12.1).State≠2)=true by simpa using k2),if_neg (by simp)]
  exact J2
 ·have k0:=y51.1 (e44.symm.trans k1)
  have hv:=x4o (y51.1 (y51.1 k0.2).2).2
  rw [if_pos (by simpa using k1),w5n hb ha hx _ _ _ k0.1 hv]
  rw [k3] at e18
  cases e18
  simp only [Option.bind_some,w3j]
  rw [if_neg (show ¬ decide ((runS c (fun _ _=>y26) (cutT r14.1 x) r10.1 r12.1).State≠2)=true by simpa using k2),if_pos (by simp),k4]
  exact J2
theorem x1l (L:List Int):y1o L=some true:=by
 refine w9f ?_
 unfold y1o
 have hs:SB 0 ⟨L,0⟩:=⟨by simp,by simp⟩
 refine z1c (x1g hs (by omega) _ _ (by omega)) fun r2 h2=>z1c (w1s h2.2 (by omega) (by omega)) fun r4 h4 => ?_
 obtain ⟨c,apps,x,f,s⟩:=r4
 obtain ⟨⟨hc,ha,hx,hf⟩,hs4⟩:=h4
 simp only at hc ha hx hf hs4
 subst hf
 have hb:=hc.cb
 have hab:=w9o ha
 refine z1c (w0l hs4 (by omega) ha) fun r6 h6=>z1c (w0l h6.2 (by omega) ha) fun r8 h8=>z1c (w28 h8.2 (by omega)) fun r10 h10=>z1c (x9u h10.2 (by omega)) fun r12 h12=>z1c (x9y h12.2 (by omega)) fun r14 h14 => ?_
 have hA:∃ r16,y3a c apps r6.1 r8.1=some r16:=by
  rw [w3d hb hab]
  split
  ·exact ⟨_,rfl⟩
  ·split
   ·exact ⟨_,rfl⟩
   ·obtain ⟨q,q1,_⟩:=w3c (fun y hy=>(h6.1.2 y hy).1) (fun y hy=>(h8.1.2 y hy).1) (by have:=h6.1.1; have:=h8.1.1; omega)
    exact ⟨q,q1⟩
 obtain ⟨r16,e16⟩:=hA
 have hL:∃ r18,y0d c apps x r6.1 r10.1 r12.1 r14.1=some r18:=by
  rcases w10 hb hab hx.2 h6.1.2 (by have:=h6.1.1; omega) r10.1 r12.1 r14.1 ⟨by have:=h10.1; omega,by have:=h12.1; omega⟩ _ rfl with ⟨_,k⟩ | ⟨_,⟨_,k⟩ | ⟨_,n,k,_⟩⟩
  ·exact ⟨_,k⟩
  ·exact ⟨_,k⟩
  ·exact ⟨_,k⟩
 obtain ⟨r18,e18⟩:=hL
 simp only []
 rw [e16,e18]
 simp only [Option.bind_some,x0u hb hab (fun y hy=>(h6.1.2 y hy).1),y8o hb hab,y88 apps r10.1 (by have:=hab.1; omega),y9u c r12.1 hb.np,w3j,w8l,w8s]
 rw [if_neg (by simp)]
 have hA:decide (fdx (fun x:z0s=>decide (x.Key=r10.1)) 0 apps < 0) = !hasA apps r10.1:=y64 (fun x:z0s=>decide (x.Key=r10.1)) apps
 have hP:decide (fdx (fun x:z0r=>decide (x.Key=r12.1)) 0 c.Products < 0) = !hasP c r12.1:=y64 (fun x:z0r=>decide (x.Key=r12.1)) c.Products
 rw [hA,hP]
 cases hasA':hasA apps r10.1
 ·rw [if_pos (by simp)]
  refine w0n hb hab hx.2 h6.1 h8.1 h10.1 h12.1 e16 e18 ?_
  rw [hasA']; simp
 ·rw [if_neg (by simp)]
  refine w0n hb hab hx.2 h6.1 h8.1 h10.1 h12.1 e16 e18 ?_
  rw [hasA']
  cases hasP c r12.1 <;> simp
end Go.Proofs.YthmmalklamiefaaGreatDoor
