/- The abstract machine: data that hold addresses within an own object (slots .dr); pointers as data. -/
import Derived.Test.YtpjjkhcojjcdpaaGreatDoorMc
namespace Go.Proofs.YtpjjkhcojjcdpaaGreatDoor
open Go.RowKit
set_option linter.unusedVariables false
section
variable {P:Program} {f:Nat→Slot} {dst:Option Tmp} {ty:TypeId} {pos:String} {af:Array Edge} {gd:Option (Nat×Bool)}
end
section
variable {P:Program} {f:Nat→Slot} {dst:Option Tmp} {ty:TypeId} {pos:String} {af:Array Edge} {ops:Array Oper} {os:List Oper} {own:Own} {lg:List (List Nat×List Nat)} {K:(Nat→Slot)→Own→List (List Nat×List Nat)→Prop}
end
section
variable {P:Program} {X:Ctx} {Q:Exit→(Nat→Slot)→Own→Prop} {c:Code} {f:Nat→Slot} {own:Own}
theorem z2f (i j id:Nat) {an:Option Nat} {t e:TypeId} {size n:Nat} {cs:List Slot} {es:List (List V)} (hb:own i=some (some (.box an t cs))) (hj:cs[j]?=some (.row id n)) (ho:own id=some (some (.row e size es))) (hn:n=es.length)
  (h:AWP P X c Q f (upl (upl own [(id,some none)]) [(i,some (some (.box an t (cs.set j (.dat (vlst es))))))])):AWP P X c Q f own:=by
 intro g a w hr
 subst hn
 have hne:i≠id:=by rintro rfl; rw [hb] at ho; cases ho
 have key:∀ k o,upl (upl own [(id,some none)]) [(i,some (some (.box an t (cs.set j (.dat (vlst es))))))] k=some (some o)→k≠id∧((k=i∧o = .box an t (cs.set j (.dat (vlst es))))∨(k≠i∧own k=some (some o))):=fun k o hk=>by
  by_cases hki:k=i
  ·subst hki
   rw [vx] at hk; cases hk
   exact ⟨hne,.inl ⟨rfl,rfl⟩⟩
  ·rw [wq hki] at hk
   by_cases hkd:k=id
   ·subst hkd; rw [vx] at hk; cases hk
   ·rw [wq hkd] at hk
    exact ⟨hkd,.inr ⟨hki,hk⟩⟩
 have keyo:∀ k o,upl (upl own [(id,some none)]) [(i,some (some (.box an t (cs.set j (.dat (vlst es))))))] k=some (some o)→k≠id∧∃ o',own k=some (some o')∧obk g k o'=obk g k o:=fun k o hk=>by
  obtain ⟨h1,h2⟩:=key k o hk
  rcases h2 with ⟨rfl,rfl⟩ | ⟨_,h2⟩
  ·exact ⟨h1,_,hb,rfl⟩
  ·exact ⟨h1,o,h2,rfl⟩
 have hM:∀ b,Mof X g (upl (upl own [(id,some none)]) [(i,some (some (.box an t (cs.set j (.dat (vlst es))))))]) b→Mof X g own b:=fun b hb=>by
  rcases hb with hb | ⟨k,o,h1,h2⟩
  ·exact .inl hb
  ·obtain ⟨_,o',h3,h4⟩:=keyo k o h1
   exact .inr ⟨k,o',h3,h4.trans h2⟩
 have he:Ext (Mof X g own) (Mof X g (upl (upl own [(id,some none)]) [(i,some (some (.box an t (cs.set j (.dat (vlst es))))))])) w w:=⟨Nat.le_refl _,fun _ _ _ _=>rfl,fun b _ hb=>hM b hb⟩
 have hfz:∀ x,g.sv id es.length=some x→(vlst es).p w (Mof X g (upl (upl own [(id,some none)]) [(i,some (some (.box an t (cs.set j (.dat (vlst es))))))])) x:=fun x hv=>by
  obtain ⟨v',xs,q1,q2,q3,q4,q5⟩:=hr.ob id _ ho
  rw [hv] at q1
  cases q1
  rcases q2.2 with ⟨r1,r2⟩ | ⟨b,cap,cur,r1,_,hb2,hnc,_,hcs,htk⟩
  ·have:es=[]:=List.eq_nil_of_length_eq_zero r2
   subst this
   exact ⟨none,0,r1,Nat.le_refl _,fun h=>absurd rfl h⟩
  ·have hobk:obk g id (.row e size es)=some b:=by simp only [obk]; rw [hv,r1]; rfl
   refine ⟨_,cap,r1,hnc,fun _=>⟨b,0,size,rfl,?_,cur,e,(0,0),hb2,q4,fun k c el u hk hc => ?_⟩⟩
   ·rintro (hM0 | ⟨k,o,h1,h2⟩)
    ·have h5:=hr.m0.1 b hM0
     rcases hr.mine id _ b ho hobk with h6 | h6
     ·exact h5.2 h6
     ·omega
    ·obtain ⟨h3,o',h4,h5⟩:=keyo k o h1
     exact h3 (hr.sep k id o' _ b h4 ho (h5.trans h2) hobk)
   ·obtain ⟨x,s1,s2,s3⟩:=q5 k c el u hk hc
    refine ⟨x,?_,u.keep he s2,s3⟩
    rw [← htk,List.getElem?_take] at s1
    split at s1
    ·rw [Nat.zero_add]; simpa using s1
    ·cases s1
 refine h g a w ⟨hr.kp,hr.m0,hr.n,hr.df,fun t'=>(hr.fr t').keep he (Gh.le_refl g),fun k o h1 => ?_,fun k k' o o' b h1 h2 h3 h4 => ?_,fun k o b h1 h2 => ?_,fun k h1 => ?_,fun k e' s' es' h1 => ?_⟩
 ·obtain ⟨_,h2⟩:=key k o h1
  rcases h2 with ⟨rfl,rfl⟩ | ⟨_,h2⟩
  ·obtain ⟨b0,l0,q1,q0,q2,q3,q4⟩:=hr.ob k _ hb
   refine ⟨b0,l0,q1,q0,q2,by rw [List.length_set]; exact q3,fun m s hs => ?_⟩
   rw [List.getElem?_set] at hs
   split at hs
   ·rename_i hjm
    subst hjm
    split at hs
    ·cases hs
     obtain ⟨x,x1,x2,x3⟩:=q4 j _ hj
     exact ⟨x,x1,hfz x x2,x3⟩
    ·cases hs
   ·obtain ⟨x,x1,x2,x3⟩:=q4 m s hs
    exact ⟨x,x1,x2.keep he (Gh.le_refl g),x3⟩
  ·exact (hr.ob k o h2).keep he (Gh.le_refl g) (fun _ _=>rfl)
 ·obtain ⟨_,p,p1,p2⟩:=keyo k o h1
  obtain ⟨_,p',p3,p4⟩:=keyo k' o' h2
  exact hr.sep k k' p p' b p1 p3 (p2.trans h3) (p4.trans h4)
 ·obtain ⟨_,p,p1,p2⟩:=keyo k o h1
  exact hr.mine k p b p1 (p2.trans h2)
 ·by_cases hki:k=i
  ·subst hki; rw [vx] at h1; cases h1
  ·rw [wq hki] at h1
   by_cases hkd:k=id
   ·subst hkd; rw [vx] at h1; cases h1
   ·rw [wq hkd] at h1; exact hr.fresh k h1
 ·obtain ⟨_,h2⟩:=key k _ h1
  rcases h2 with ⟨_,h2⟩ | ⟨_,h2⟩
  ·cases h2
  ·exact hr.top k e' s' es' h2
end
end Go.Proofs.YtpjjkhcojjcdpaaGreatDoor
