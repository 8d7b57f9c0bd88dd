/- Plain: subscriptions at a moment, both sides: SubAt, Waiting, Scopes. -/
import Derived.Test.YticadaaoggpenaaGreatDoorEsZd
import Derived.Test.YticadaaoggpenaaGreatDoorEoZd
import Derived.Test.YticadaaoggpenaaGreatDoorVbZd
namespace Go.Proofs.YticadaaoggpenaaGreatDoor
set_option linter.unusedVariables false
set_option linter.unusedSimpArgs false
set_option linter.unusedSectionVars false
set_option maxRecDepth 20000
theorem w4z (b:Bool) (e:Int):z7y b e=some (if b=true then e else 0):=by
 unfold z7y
 cases b <;> rfl
theorem w4s (a b c:Int):z5z [a,b,c]=some (or2 a (or2 b c)):=by
 unfold z5z or2
 rw [if_pos (by simp)]
 simp only [forL,y1b,y1c]
 by_cases h1:a=0 <;> by_cases h2:b=0 <;> by_cases h3:c=0 <;> simp [h1,h2,h3,after]
def moF (v:Int):Int:=if momP v=true then 0 else 1
theorem w0j (v:Int):z5q v=some (moF v):=by
 unfold z5q moF
 rw [x0c]
 simp only [Option.bind_some]
 cases momP v <;> rfl
theorem w4o (v:Int):z30 v=some (moF v):=by
 unfold z30 moF
 rw [x34]
 simp only [Option.bind_some,w4z]
 cases momP v <;> rfl
theorem w3e {v:Int} (h:moF v=0):0≤v:=by
 unfold moF momP at h
 split at h
 ·rename_i h1
  simp at h1; omega
 ·simp at h
def wtP (st:Bs→Bs→z0h) (x:z0e):Bool:=(decide (x.Kind=1) && decide ((st x.App x.Product).State=1)) && decide ((st x.App x.Product).Since=x.At)
def wtI (st:Bs→Bs→z0h):Nat→List z0e→List Int
 | _,[]=>[]
 | k,x::l=>if wtP st x=true then (k:Int)::wtI st (k+1) l else wtI st (k+1) l
theorem x4w (st:Bs→Bs→z0h):∀ (l:List z0e) (k:Nat) (i:Int),i∈wtI st k l↔∃ (j:Nat) (x:z0e),i=((k+j:Nat):Int)∧l[j]?=some x∧wtP st x=true
 | [],k,i=>by simp [wtI]
 | x::l,k,i=>by
  have ih:=x4w st l (k+1) i
  have step:(∃ (j:Nat) (y:z0e),i=((k+j:Nat):Int)∧(x::l)[j]?=some y∧wtP st y=true)↔(i=(k:Int)∧wtP st x=true)∨∃ (j:Nat) (y:z0e),i=((k+1+j:Nat):Int)∧l[j]?=some y∧wtP st y=true:=by
   constructor
   ·rintro ⟨j,y,h1,h2,h3⟩
    cases j with
    | zero =>
     simp only [List.getElem?_cons_zero,Option.some.injEq] at h2
     subst h2
     exact .inl ⟨by simpa using h1,h3⟩
    | succ j=>exact .inr ⟨j,y,by rw [h1]; congr 1; omega,by simpa using h2,h3⟩
   ·rintro (⟨h1,h2⟩ | ⟨j,y,h1,h2,h3⟩)
    ·exact ⟨0,x,by simpa using h1,rfl,h2⟩
    ·exact ⟨j+1,y,by rw [h1]; congr 1; omega,by simpa using h2,h3⟩
  rw [step,← ih,wtI]
  split
  ·rename_i hx
   simp [hx]
  ·rename_i hx
   simp [hx]
theorem y9c (st:Bs→Bs→z0h):∀ (l:List z0e) (k:Nat),(wtI st k l).Pairwise (fun x y=>x < y)∧(wtI st k l).length≤l.length
 | [],k=>by simp [wtI]
 | x::l,k=>by
  obtain ⟨h1,h2⟩:=y9c st l (k+1)
  rw [wtI]
  split
  ·refine ⟨List.pairwise_cons.2 ⟨fun i hi => ?_,h1⟩,by simp; omega⟩
   obtain ⟨j,y,e,_⟩:=(x4w st l (k+1) i).1 hi
   omega
  ·exact ⟨h1,by simp; omega⟩
theorem x1p {c:z0g} {L:List z0e} {v:Int} {st:Bs→Bs→z0h} (hs:∀ a p,z5c c L a p v=some (st a p)):∀ (l:List z0e) (k:Nat) (out:List Int),out.length+l.length≤1000000 →
  forL (fun (k:Nat) (x:z0e) (s:(List Int))=>z5a c L v k x s) (fun (s:(List Int))=>z6e s) k l out=some (out++wtI st k l)
 | [],k,out,_=>by
  show z6e out=_
  unfold z6e
  simp [wtI]
 | x::l,k,out,h=>by
  simp only [List.length_cons] at h
  have hstep:z5a c L v k x out=if wtP st x=true then some (.inl (out++[(k:Int)])) else some (.inl out):=by
   unfold z5a z6d
   rw [hs]
   simp only [Option.bind_some]
   rw [if_pos (show out.length+1≤1000000000 by omega)]
   rfl
  show (z5a c L v k x out).bind _=_
  rw [hstep,wtI]
  by_cases hx:wtP st x=true
  ·rw [if_pos hx,if_pos hx]
   simp only [Option.bind_some,after]
   rw [x1p hs l (k+1) _ (by simp; omega)]
   simp
  ·rw [if_neg hx,if_neg hx]
   simp only [Option.bind_some,after]
   exact x1p hs l (k+1) out (by omega)
noncomputable def askI (m5:List (z0q×Int)):List (z0q×z0h)→List Int
 | []=>[]
 | q::p=>if q.2.State=1 then (lkG m5 q.1).getD 0::askI m5 p else askI m5 p
theorem x3a (m5:List (z0q×Int)):∀ (p:List (z0q×z0h)) (i:Int),i∈askI m5 p↔∃ q,q∈p∧q.2.State=1∧i=(lkG m5 q.1).getD 0
 | [],i=>by simp [askI]
 | q::p,i=>by
  have ih:=x3a m5 p i
  rw [askI]
  split
  ·rename_i h
   rw [List.mem_cons,ih]
   constructor
   ·rintro (h1 | ⟨r,h1,h2,h3⟩)
    ·exact ⟨q,by simp,h,h1⟩
    ·exact ⟨r,by simp [h1],h2,h3⟩
   ·rintro ⟨r,h1,h2,h3⟩
    rcases List.mem_cons.1 h1 with rfl | h1
    ·exact .inl h3
    ·exact .inr ⟨r,h1,h2,h3⟩
  ·rename_i h
   rw [ih]
   constructor
   ·rintro ⟨r,h1,h2,h3⟩
    exact ⟨r,by simp [h1],h2,h3⟩
   ·rintro ⟨r,h1,h2,h3⟩
    rcases List.mem_cons.1 h1 with rfl | h1
    ·exact absurd h2 h
    ·exact ⟨r,h1,h2,h3⟩
theorem x52 {r11:z17×List Int}:∀ (p:List (z0q×z0h)) (k:Nat) (out:List Int),(∀ q,q∈p→q.1.app_.length≤1000000∧q.1.product_.length≤1000000)→out.length+p.length≤1000000 →
  forL (fun _ (x:(z0q×z0h)) (s:(List Int))=>z7b r11 x s) (fun (s:(List Int))=>z8y s) k p out=some ((out++askI r11.1.asks_ p).mergeSort fun x y=>decide (x≤y),0)
 | [],k,out,_,h=>by
  show z8y out=_
  unfold z8y z8z
  rw [if_pos (by simp at h; omega)]
  simp [askI]
 | q::p,k,out,hq,h=>by
  simp only [List.length_cons] at h
  have b:=hq q (by simp)
  have hstep:z7b r11 q out=if q.2.State=1 then some (.inl (out++[((lkG r11.1.asks_ q.1).getD 0)])) else some (.inl out):=by
   unfold z7b
   by_cases h1:q.2.State=1
   ·rw [if_pos (by simpa using h1),if_pos ⟨by omega,by omega⟩,if_pos (by omega),if_pos h1]
   ·rw [if_neg (by simpa using h1),if_neg h1]
  show (z7b r11 q out).bind _=_
  rw [hstep,askI]
  by_cases h1:q.2.State=1
  ·rw [if_pos h1,if_pos h1]
   simp only [Option.bind_some,after]
   rw [x52 p (k+1) _ (fun r hr=>hq r (by simp [hr])) (by simp; omega)]
   simp
  ·rw [if_neg h1,if_neg h1]
   simp only [Option.bind_some,after]
   exact x52 p (k+1) out (fun r hr=>hq r (by simp [hr])) (by omega)
theorem w1w {c:z0g} {L:List z0e} {k:Nat} {m4:List (z0q×z0h)} {m5:List (z0q×Int)} (hI:BI c L k m4 m5) (hr:L.Pairwise fun x y=>orE x y < 0) {p:List (z0q×z0h)} (hp:p.Perm m4):(askI m5 p).Perm (wtI (bk m4) 0 L):=by
 have hd:p.Pairwise fun p q=>p.1≠q.1:=(hp.symm.pairwise hI.d) (fun h=>Ne.symm h)
 have hst:∀ q,q∈m4→bk m4 q.1.app_ q.1.product_=q.2:=fun q hq=>by
  have:=w0p hI.d hq
  unfold bk
  have e:z0q.mk q.1.app_ q.1.product_=q.1:=rfl
  rw [e,this]; rfl
 have nd:∀ p:List (z0q×z0h),(∀ q,q∈p→q∈m4)→(p.Pairwise fun p q=>p.1≠q.1)→(askI m5 p).Nodup:=by
  intro p
  induction p with
  | nil=>intro _ _; simp [askI]
  | cons q p ih =>
   intro hm hd
   obtain ⟨h1,h2⟩:=List.pairwise_cons.1 hd
   have ih':=ih (fun r hr=>hm r (by simp [hr])) h2
   rw [askI]
   split
   ·rename_i hs
    refine List.nodup_cons.2 ⟨fun hmem => ?_,ih'⟩
    obtain ⟨r,r1,r2,r3⟩:=(x3a m5 p _).1 hmem
    obtain ⟨i,x,x1,x2,x3,x4,x5,x6⟩:=hI.w q (hm q (by simp)) hs
    obtain ⟨j,y,y1,y2,y3,y4,y5,y6⟩:=hI.w r (hm r (by simp [r1])) r2
    rw [x6,y6] at r3
    have hij:i=j:=by simp at r3; omega
    subst hij
    rw [x1] at y1
    cases y1
    refine h1 r r1 ?_
    cases hq:q.1 with
    | mk a b =>
     cases hr:r.1 with
     | mk a' b' =>
      rw [hq] at x2 x3; rw [hr] at y2 y3
      simp only at x2 x3 y2 y3
      rw [← x2,← x3,← y2,← y3]
   ·exact ih'
 have hm:∀ q,q∈p→q∈m4:=fun q hq=>hp.mem_iff.1 hq
 refine (List.perm_ext_iff_of_nodup (nd p hm hd) ((y9c (bk m4) L 0).1.imp fun h=>by omega)).2 fun i => ?_
 rw [x3a,x4w]
 constructor
 ·rintro ⟨q,q1,q2,q3⟩
  obtain ⟨j,x,x1,x2,x3,x4,x5,x6⟩:=hI.w q (hm q q1) q2
  refine ⟨j,x,by rw [q3,x6]; simp,x1,?_⟩
  have:=hst q (hm q q1)
  unfold wtP
  rw [x2,x3,this]
  simp [x4,q2,x5]
 ·rintro ⟨j,x,h1,h2,h3⟩
  unfold wtP at h3
  simp only [Bool.and_eq_true,decide_eq_true_eq] at h3
  obtain ⟨⟨k1,k2⟩,k3⟩:=h3
  have hlk:∃ s,lkG m4 (z0q.mk x.App x.Product)=some s∧bk m4 x.App x.Product=s:=by
   unfold bk at k2 ⊢
   cases h:lkG m4 (z0q.mk x.App x.Product) with
   | none=>rw [h] at k2; simp [z9x] at k2
   | some s=>exact ⟨s,rfl,rfl⟩
  obtain ⟨s,s1,s2⟩:=hlk
  rw [s2] at k2 k3
  have hq:=x5p s1
  obtain ⟨i,y,y1,y2,y3,y4,y5,y6⟩:=hI.w _ hq k2
  refine ⟨(z0q.mk x.App x.Product,s),hp.mem_iff.2 hq,k2,?_⟩
  rw [y6,h1]
  simp only [Option.getD_some]
  have hij:i=j:=by
   have hsame:orE y x=0:=x6o (by rw [y5]; exact k3) y2 y3
   have hsame':orE x y=0:=x6o (by rw [y5]; exact k3.symm) y2.symm y3.symm
   rw [List.pairwise_iff_getElem] at hr
   obtain ⟨l1,l2⟩:=List.getElem?_eq_some_iff.1 y1
   obtain ⟨l3,l4⟩:=List.getElem?_eq_some_iff.1 h2
   rcases Nat.lt_trichotomy i j with h | h | h
   ·have:=hr i j l1 l3 h
    rw [l2,l4] at this
    omega
   ·exact h
   ·have:=hr j i l3 l1 h
    rw [l2,l4] at this
    omega
  subst hij
  simp
def acS (st:Bs→Bs→z0h) (a:Bs) (l:List z0m):List Bs:=l.flatMap fun x=>if (st a x.Key).State=2 then x.Scopes else []
theorem x3i (st:Bs→Bs→z0h) (a:Bs) (x:z0m) (l:List z0m):acS st a (x::l)=(if (st a x.Key).State=2 then x.Scopes else [])++acS st a l:=by
 unfold acS; rw [List.flatMap_cons]
theorem w16 {st:Bs→Bs→z0h} {a:Bs} {l:List z0m} {z:Bs} (h:z∈acS st a l):∃ x,x∈l∧z∈x.Scopes:=by
 unfold acS at h
 obtain ⟨x,h1,h2⟩:=List.mem_flatMap.1 h
 split at h2
 ·exact ⟨x,h1,h2⟩
 ·simp at h2
theorem w17 (st:Bs→Bs→z0h) (a:Bs):∀ (l:List z0m),(∀ x,x∈l→x.Scopes.length≤50)→(acS st a l).length≤l.length * 50
 | [],_=>by simp [acS]
 | x::l,h=>by
  have ih:=w17 st a l fun y hy=>h y (by simp [hy])
  have:=h x (by simp)
  rw [x3i,List.length_append,List.length_cons]
  split
  ·omega
  ·simp; omega
theorem y79 {st:Bs→Bs→z0h} {a:Bs} {r15:z17×List Int}:∀ (l:List z0m) (k:Nat) (out:List Bs),(∀ x,x∈l→x.Scopes.length≤50∧z56 r15.1 a x.Key=some (st a x.Key))→out.length+l.length * 50≤1000000 →
  forL (fun (k:Nat) (x:z0m) (s:(List Bs))=>z8l a r15 k x s) (fun (s:(List Bs))=>z50 s) k l out=z50 (out++acS st a l)
 | [],k,out,_,_=>by
  show z50 out=_
  simp [acS]
 | x::l,k,out,h,hl=>by
  simp only [List.length_cons] at hl
  obtain ⟨h1,h2⟩:=h x (by simp)
  have hstep:z8l a r15 k x out=if (st a x.Key).State=2 then some (.inl (out++x.Scopes)) else some (.inl out):=by
   unfold z8l z9r
   rw [h2]
   simp only [Option.bind_some]
   rw [if_pos (show out.length+x.Scopes.length≤1000000000 by omega)]
   by_cases hs:(st a x.Key).State=2
   ·rw [if_pos (by simpa using hs),if_pos hs]
   ·rw [if_neg (by simpa using hs),if_neg hs]
  show (z8l a r15 k x out).bind _=_
  rw [hstep,x3i]
  by_cases hs:(st a x.Key).State=2
  ·rw [if_pos hs,if_pos hs]
   simp only [Option.bind_some,after]
   rw [y79 l (k+1) _ (fun y hy=>h y (by simp [hy])) (by simp; omega),List.append_assoc]
  ·rw [if_neg hs,if_neg hs]
   simp only [Option.bind_some,after,List.nil_append]
   exact y79 l (k+1) _ (fun y hy=>h y (by simp [hy])) (by omega)
theorem y78 {st:Bs→Bs→z0h} {a:Bs} {c:z0g} {L:List z0e} {v:Int}:∀ (l:List z0m) (k:Nat) (out:List Bs),(∀ x,x∈l→x.Scopes.length≤50∧z5c c L a x.Key v=some (st a x.Key))→out.length+l.length * 50≤1000000 →
  forL (fun (k:Nat) (x:z0m) (s:(List Bs))=>z5t c L a v k x s) (fun (s:(List Bs))=>z34 s) k l out=z34 (out++acS st a l)
 | [],k,out,_,_=>by
  show z34 out=_
  simp [acS]
 | x::l,k,out,h,hl=>by
  simp only [List.length_cons] at hl
  obtain ⟨h1,h2⟩:=h x (by simp)
  have hstep:z5t c L a v k x out=if (st a x.Key).State=2 then some (.inl (out++x.Scopes)) else some (.inl out):=by
   unfold z5t z6z
   rw [h2]
   simp only [Option.bind_some]
   rw [if_pos (show out.length+x.Scopes.length≤1000000000 by omega)]
   by_cases hs:(st a x.Key).State=2
   ·rw [if_pos (by simpa using hs),if_pos hs]
   ·rw [if_neg (by simpa using hs),if_neg hs]
  show (z5t c L a v k x out).bind _=_
  rw [hstep,x3i]
  by_cases hs:(st a x.Key).State=2
  ·rw [if_pos hs,if_pos hs]
   simp only [Option.bind_some,after]
   rw [y78 l (k+1) _ (fun y hy=>h y (by simp [hy])) (by simp; omega),List.append_assoc]
  ·rw [if_neg hs,if_neg hs]
   simp only [Option.bind_some,after,List.nil_append]
   exact y78 l (k+1) _ (fun y hy=>h y (by simp [hy])) (by omega)
theorem x5l {c:z0g} (hc:catF c=0):c.Products.length≤100∧∀ x,x∈c.Products→keyP x.Key=true∧x.Scopes.length≤50∧x.Scopes.all scP=true:=by
 unfold catF at hc
 have h1:pdF c.Products=0:=by
  by_cases h:pdF c.Products=0
  ·exact h
  ·rw [if_pos h] at hc; exact absurd hc h
 unfold pdF at h1
 split at h1
 ·simp at h1
 ·rename_i hn
  have h2:=(y7z w02 c.Products [] h1).1.2
  refine ⟨by omega,fun x hx => ?_⟩
  have h3:=h2 x hx
  unfold gP at h3
  split at h3
  ·simp at h3
  ·rename_i hk
   simp only [Bool.false_eq_true,if_false] at h3
   exact ⟨by simpa using hk,w8c h3⟩
def scR (l:List Bs):List Bs×Int:=if 50 < l.length then ([],2) else (lsP l,0)
theorem x1a {l:List Bs} (hl:l.all scP=true) (hs:Sh l):z50 l=some (scR l)∧z34 l=some (scR l):=by
 unfold scR
 by_cases h:50 < l.length
 ·have h':decide (50 < (l.length:Int))=true:=decide_eq_true (by omega)
  unfold z50 z34
  rw [h',if_pos h]
  exact ⟨rfl,rfl⟩
 ·have h':¬ decide (50 < (l.length:Int))=true:=by simp; omega
  have h0:scF l=0:=by unfold scF; rw [if_neg h,if_pos hl]
  rw [if_neg h]
  refine ⟨?_,?_⟩
  ·unfold z50
   rw [if_neg h',w0t (a:=l) hs,if_neg (by simp [h0])]
   rfl
  ·unfold z34
   rw [if_neg h',x8k l hs]
   rfl
theorem w5g (l:List Bs) (h:l.length≤1000000):(scR l).1.length≤1000000:=by
 unfold scR
 split
 ·simp
 ·have:=w5w l; simp only; omega
section
variable {c:z0g} {apps:List z0t} {l:List z0e} (hb:CB c) (ha:AB apps) (hl:∀ x,x∈l→EB x)
include hb ha hl
theorem atM (v:Int) (h0:eF c apps l=0):∃ m4 m5 l6,z57 c l v=some (z17.mk m4 m5,l6)∧bk m4=runS c (fun _ _=>z9x) (cutT v l)∧BI c l l.length m4 m5:=by
 obtain ⟨⟨e1,e2,e3⟩,e4,e5⟩:=y46 h0
 exact w6l (apps:=apps) hb e1 l (fun x hx=>⟨e4 x hx,hl x hx⟩) (by omega)
theorem x59 (a p:Bs) (v:Int) (hap:a.length≤1000000∧p.length≤1000000):y1e c apps l a p v=some (if or2 (eF c apps l) (or2 (if (hasA apps a && hasP c p)=true then 0 else 8) (moF v))≠0 then (z0h.mk 0 [] 0 0,or2 (eF c apps l) (or2 (if (hasA apps a && hasP c p)=true then 0 else 8) (moF v))) else (runS c (fun _ _=>z9x) (cutT v l) a p,0)):=by
 unfold y1e
 rw [y6m hb ha hl]
 simp only [Option.bind_some]
 by_cases h0:eF c apps l=0
 ·obtain ⟨⟨e1,e2,e3⟩,e4,e5⟩:=y46 h0
  have hsf:y0i c apps a p v=some (or2 (if (hasA apps a && hasP c p)=true then 0 else 8) (moF v)):=by
   unfold y0i
   obtain ⟨r6,r61,r62,_⟩:=x3c apps a (by have:=ha.1; omega) (x3d e2)
   have hrp:y8l z0m.Key c.Products:=(y5i e1).1.1
   obtain ⟨r8,r81,r82⟩:=y6c c p hb.np hrp
   rw [r61,r81]
   simp only [Option.bind_some,r62,r82,w0j]
   unfold or2
   cases hasA apps a <;> cases hasP c p <;> simp
  obtain ⟨m4,m5,l6,q1,q2,q3⟩:=atM hb ha hl v h0
  rw [if_neg (by simpa using h0),hsf,q1]
  simp only [Option.bind_some,x0m _ a p hap,q2]
  have e:∀ z,or2 (eF c apps l) z=z:=fun z=>by unfold or2; rw [if_neg (by simpa using h0)]
  rw [e]
  by_cases h1:or2 (if (hasA apps a && hasP c p)=true then 0 else 8) (moF v)=0
  ·rw [if_neg (by simpa using h1),if_neg (by simpa using h1)]
  ·rw [if_pos (by simpa using h1),if_pos h1]
 ·have e:∀ z,or2 (eF c apps l) z=eF c apps l:=fun z=>by unfold or2; rw [if_pos h0]
  rw [if_pos (by simpa using h0),e,if_pos h0]
theorem x9e (a p:Bs) (v:Int) (h0:eF c apps l=0) (hv:0≤v):z5c c l a p v=some (runS c (fun _ _=>z9x) (cutT v l) a p):=by
 obtain ⟨⟨e1,e2,e3⟩,e4,e5⟩:=y46 h0
 exact w2j (apps:=apps) hb e1 hv l e4 (x98 e5) (by omega) a p
theorem x01 (v:Int):z9t c apps l v=some (if or2 (eF c apps l) (moF v)≠0 then ([],or2 (eF c apps l) (moF v)) else (wtI (runS c (fun _ _=>z9x) (cutT v l)) 0 l,0)):=by
 unfold z9t
 rw [y6m hb ha hl]
 simp only [Option.bind_some,w0j]
 by_cases h0:eF c apps l=0
 ·obtain ⟨⟨e1,e2,e3⟩,e4,e5⟩:=y46 h0
  have e:∀ z,or2 (eF c apps l) z=z:=fun z=>by unfold or2; rw [if_neg (by simpa using h0)]
  rw [if_neg (by simpa using h0),e]
  by_cases h1:moF v=0
  ·obtain ⟨m4,m5,l6,q1,q2,q3⟩:=atM hb ha hl v h0
   rw [if_neg (by simpa using h1),if_neg (by simpa using h1),q1]
   simp only [Option.bind_some]
   refine w59 fun p hp => ?_
   have hlen:p.length≤1000000:=by
    have h4:=q3.z
    have h5:=hp.length_eq
    omega
   rw [x52 p 0 [] (fun q hq=>q3.n q (hp.mem_iff.1 hq)) (by simpa using hlen)]
   rw [List.nil_append,w21 (w1w q3 (x98 e5) hp) (y9c _ l 0).1,q2]
  ·rw [if_pos (by simpa using h1),if_pos h1]
 ·have e:∀ z,or2 (eF c apps l) z=eF c apps l:=fun z=>by unfold or2; rw [if_pos h0]
  rw [if_pos (by simpa using h0),e,if_pos h0]
theorem x3k (v:Int) (h0:eF c apps l=0) (hv:0≤v):z8q c l v=some (wtI (runS c (fun _ _=>z9x) (cutT v l)) 0 l):=by
 have h3:=(y46 h0).1.2.2
 unfold z8q
 rw [if_pos (by omega),x1p (fun a p=>x9e hb ha hl a p v h0 hv) l 0 [] (by simp; omega),List.nil_append]
theorem x3h (v:Int) (a:Bs) (h0:eF c apps l=0) (st:Bs→Bs→z0h):(acS st a c.Products).all scP=true∧Sh (acS st a c.Products):=by
 obtain ⟨⟨e1,e2,e3⟩,e4,e5⟩:=y46 h0
 obtain ⟨p1,p2⟩:=x5l e1
 have h1:=w17 st a c.Products fun x hx=>(p2 x hx).2.1
 refine ⟨List.all_eq_true.2 fun z hz => ?_,by omega,fun z hz => ?_⟩
 ·obtain ⟨x,x1,x2⟩:=w16 hz
  exact List.all_eq_true.1 (p2 x x1).2.2 z x2
 ·obtain ⟨x,x1,x2⟩:=w16 hz
  exact (hb.kp x x1).2.2 z x2
theorem x3y (a:Bs) (v:Int) (hal:a.length≤1000000):y0k c apps l a v=some (if or2 (eF c apps l) (or2 (if hasA apps a=true then 0 else 8) (moF v))≠0 then ([],or2 (eF c apps l) (or2 (if hasA apps a=true then 0 else 8) (moF v))) else scR (acS (runS c (fun _ _=>z9x) (cutT v l)) a c.Products)):=by
 unfold y0k
 rw [y6m hb ha hl]
 simp only [Option.bind_some,w0j]
 by_cases h0:eF c apps l=0
 ·obtain ⟨⟨e1,e2,e3⟩,e4,e5⟩:=y46 h0
  have e:∀ z,or2 (eF c apps l) z=z:=fun z=>by unfold or2; rw [if_neg (by simpa using h0)]
  obtain ⟨r9,r91,r92,_⟩:=x3c apps a (by have:=ha.1; omega) (x3d e2)
  rw [if_neg (by simpa using h0),e,r91]
  simp only [Option.bind_some,r92]
  by_cases h8:hasA apps a=true
  ·have e':∀ z,or2 (if hasA apps a=true then 0 else 8) z=z:=fun z=>by unfold or2; rw [if_pos h8]; simp
   rw [if_neg (by simp [h8]),e']
   by_cases h1:moF v=0
   ·obtain ⟨m4,m5,l6,q1,q2,q3⟩:=atM hb ha hl v h0
    obtain ⟨p1,p2⟩:=x5l e1
    rw [if_neg (by simpa using h1),if_neg (by simpa using h1),q1]
    simp only [Option.bind_some]
    rw [if_pos (by omega),y79 (st:=runS c (fun _ _=>z9x) (cutT v l)) c.Products 0 [] (fun x hx=>⟨(p2 x hx).2.1,by rw [x0m _ a x.Key ⟨hal,(hb.kp x hx).1⟩,q2]⟩) (by simp; omega),List.nil_append]
    obtain ⟨g1,g2⟩:=x3h hb ha hl v a h0 (runS c (fun _ _=>z9x) (cutT v l))
    exact (x1a g1 g2).1
   ·rw [if_pos (by simpa using h1),if_pos h1]
  ·have e':∀ z,or2 (if hasA apps a=true then 0 else 8) z=8:=fun z=>by unfold or2; rw [if_neg h8]; simp
   rw [if_pos (by simpa using h8),e']
   rfl
 ·have e:∀ z,or2 (eF c apps l) z=eF c apps l:=fun z=>by unfold or2; rw [if_pos h0]
  rw [if_pos (by simpa using h0),e,if_pos h0]
theorem x5e (a:Bs) (v:Int) (h0:eF c apps l=0) (hv:0≤v):z9c c l a v=some (scR (acS (runS c (fun _ _=>z9x) (cutT v l)) a c.Products)):=by
 obtain ⟨⟨e1,e2,e3⟩,e4,e5⟩:=y46 h0
 obtain ⟨p1,p2⟩:=x5l e1
 unfold z9c
 rw [if_pos (by omega),y78 (st:=runS c (fun _ _=>z9x) (cutT v l)) c.Products 0 [] (fun x hx=>⟨(p2 x hx).2.1,x9e hb ha hl a x.Key v h0 hv⟩) (by simp; omega),List.nil_append]
 obtain ⟨g1,g2⟩:=x3h hb ha hl v a h0 (runS c (fun _ _=>z9x) (cutT v l))
 exact (x1a g1 g2).2
end
end Go.Proofs.YticadaaoggpenaaGreatDoor
