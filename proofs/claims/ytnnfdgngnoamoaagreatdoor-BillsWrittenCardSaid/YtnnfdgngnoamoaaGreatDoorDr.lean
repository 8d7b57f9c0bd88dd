/- The abstract machine: data that hold addresses within an own object (slots .dr); pointers as data. -/
import Derived.Test.YtnnfdgngnoamoaaGreatDoorMc
namespace Go.Proofs.YtnnfdgngnoamoaaGreatDoor
open Go.RowKit
set_option linter.unusedVariables false
def vw (id b:Nat):Slot→Slot
 | .ptr i off=>cond (Nat.beq i id) (.dat (vval (.pointer (some ⟨b,off,none⟩)))) (.ptr i off)
 | .dr i u=>cond (Nat.beq i id) (.dat (u b)) (.dr i u)
 | s=>s
theorem x57 {g:Gh} {w:World} {M:Blks} {id b:Nat} (hb:g.bl id=some b) {s:Slot} {v:Value} (h:RepS g w M s v):RepS g w M (vw id b s) v:=by
 cases s with
 | ptr i off =>
  simp only [vw]
  by_cases hi:i=id
  ·subst hi
   have:Nat.beq i i=true:=by simp
   rw [this]
   obtain ⟨b',h1,h2⟩:=h
   rw [hb] at h1; cases h1
   exact h2
  ·rw [qu hi]; exact h
 | dr i u =>
  simp only [vw]
  by_cases hi:i=id
  ·subst hi
   have:Nat.beq i i=true:=by simp
   rw [this]
   obtain ⟨b',h1,h2⟩:=h
   rw [hb] at h1; cases h1
   exact h2
  ·rw [qu hi]; exact h
 | any=>exact h
 | dat u=>exact h
 | row i n=>exact h
 | rptr i n size k c=>exact h
 | mp i=>exact h
 | rsub i n size k=>exact h
 | nptr i=>exact h
 | comp _ _=>exact h
theorem y95 {g:Gh} {w:World} {M:Blks} {id b:Nat} (hb:g.bl id=some b) {s:Slot} {v:Value} (h:RepS g w M (vw id b s) v):RepS g w M s v:=by
 cases s with
 | ptr i off =>
  simp only [vw] at h
  by_cases hi:i=id
  ·subst hi
   have:Nat.beq i i=true:=by simp
   rw [this] at h
   exact ⟨b,hb,h⟩
  ·rw [qu hi] at h; exact h
 | dr i u =>
  simp only [vw] at h
  by_cases hi:i=id
  ·subst hi
   have:Nat.beq i i=true:=by simp
   rw [this] at h
   exact ⟨b,hb,h⟩
  ·rw [qu hi] at h; exact h
 | any=>exact h
 | dat u=>exact h
 | row i n=>exact h
 | rptr i n size k c=>exact h
 | mp i=>exact h
 | rsub i n size k=>exact h
 | nptr i=>exact h
 | comp _ _=>exact h
theorem Rel.view {X:Ctx} {f1 f2:Nat→Slot} {own1 own2:Own} {g:Gh} {a:Act} {w:World} {id:Nat} {an an2:Option Nat} {t:TypeId} {cs:List Slot} (h:Rel X f1 own1 g a w)
  (h1:own1 id=some (some (.box an t cs))) (h2:own2=upl own1 [(id,some (some (.box an2 t cs)))]) (ha:∀ q,an2=some q→∀ b,g.bl id=some b→q=b)
  (hf:∀ k v,RepS g w (Mof X g own1) (f1 k) v→RepS g w (Mof X g own1) (f2 k) v):Rel X f2 own2 g a w:=by
 have key:∀ i o2,own2 i=some (some o2)→∃ o1,own1 i=some (some o1)∧obk g i o1=obk g i o2∧(o1=o2∨(i=id∧o2 = .box an2 t cs∧o1 = .box an t cs)):=fun i o2 ho=>by
  rw [h2] at ho
  by_cases hi:i=id
  ·subst hi
   rw [vm] at ho
   cases ho
   exact ⟨_,h1,rfl,.inr ⟨rfl,rfl,rfl⟩⟩
  ·rw [va hi] at ho
   exact ⟨o2,ho,rfl,.inl rfl⟩
 have key':∀ i o1,own1 i=some (some o1)→∃ o2,own2 i=some (some o2)∧obk g i o2=obk g i o1:=fun i o1 ho=>by
  rw [h2]
  by_cases hi:i=id
  ·subst hi
   rw [h1] at ho; cases ho
   exact ⟨_,vm,rfl⟩
  ·exact ⟨o1,by rw [va hi]; exact ho,rfl⟩
 have hM:Mof X g own2=Mof X g own1:=by
  funext b
  refine propext ⟨fun hb => ?_,fun hb => ?_⟩
  ·rcases hb with hb | ⟨i,o,e1,e2⟩
   ·exact .inl hb
   ·obtain ⟨o1,e3,e4,_⟩:=key i o e1
    exact .inr ⟨i,o1,e3,e4.trans e2⟩
  ·rcases hb with hb | ⟨i,o,e1,e2⟩
   ·exact .inl hb
   ·obtain ⟨o1,e3,e4⟩:=key' i o e1
    exact .inr ⟨i,o1,e3,e4.trans e2⟩
 refine ⟨h.kp,h.m0,h.n,h.df,fun k => ?_,fun i o ho => ?_,fun i i' o o' b e1 e2 e3 e4 => ?_,fun i o b e1 e2 => ?_,fun i hi => ?_,fun i e size es e1 k hk => ?_⟩
 ·rw [hM]; exact hf k _ (h.fr k)
 ·rw [hM]
  obtain ⟨o1,e1,_,e3⟩:=key i o ho
  rcases e3 with rfl | ⟨rfl,rfl,rfl⟩
  ·exact h.ob i _ e1
  ·obtain ⟨b,l,q1,q2,q3⟩:=h.ob i _ e1
   exact ⟨b,l,q1,fun q hq=>ha q hq b q1,q3⟩
 ·obtain ⟨o1,p1,p2,_⟩:=key i o e1
  obtain ⟨o2,p3,p4,_⟩:=key i' o' e2
  exact h.sep i i' o1 o2 b p1 p3 (p2.trans e3) (p4.trans e4)
 ·obtain ⟨o1,p1,p2,_⟩:=key i o e1
  exact h.mine i o1 b p1 (p2.trans e2)
 ·refine h.fresh i ?_
  rw [h2] at hi
  by_cases hii:i=id
  ·subst hii; rw [vm] at hi; cases hi
  ·rw [va hii] at hi; exact hi
 ·obtain ⟨o1,p1,_,p3⟩:=key i _ e1
  rcases p3 with rfl | ⟨_,p4,_⟩
  ·exact h.top i e size es p1 k hk
  ·cases p4
section
variable {P:Program} {f:Nat→Slot} {dst:Option Tmp} {ty:TypeId} {pos:String} {af:Array Edge} {gd:Option (Nat×Bool)}
theorem x8i {o:Oper} (id:Nat) {an:Option Nat} {t:TypeId} {cs:List Slot} {rd wr:List (Nat×Option (Option AObj))} {s:Slot} (h:∀ b,Stp P o (fun k=>vw id b (f k)) ⟨false,rd,wr,vw id b s⟩) (hr:(keys rd).contains id=false) (hw:(keys wr).contains id=false) :
  Stp P o f ⟨false,(id,some (some (.box an t cs)))::rd,wr,s⟩:=by
 classical
 intro X f' own g a w Q hrl hd hx hrd K hK
 have ho:own id=some (some (.box an t cs)):=hrd (id,_) (by simp)
 obtain ⟨b,l,q1,q2,q3⟩:=hrl.ob id _ ho
 have hidw:id ∉ keys wr:=fun hm=>by rw [List.contains_iff_mem.2 hm] at hw; cases hw
 let f2:Nat→Slot:=fun k=>if Operand.tmp k∈o.op.operands.toList then vw id b (f k) else f' k
 have e0:∀ k,Operand.tmp k∈o.op.operands.toList→f' k=f k:=fun k hk=>hx (.tmp k) (by simpa using hk)
 have hR:Rel X f2 (upl own [(id,some (some (.box (some b) t cs)))]) g a w:=hrl.view ho rfl (fun q hq b' hb'=>by cases hq; rw [q1] at hb'; exact Option.some.inj hb') fun k v hv=>by
  show RepS g w _ (if Operand.tmp k∈o.op.operands.toList then vw id b (f k) else f' k) v
  split
  ·rename_i hk
   rw [← e0 k hk]
   exact x57 q1 hv
  ·exact hv
 refine h b X f2 _ g a w Q hR hd (fun x hxm => ?_) (fun q hq => ?_) K fun g' v w' hR'=>hK g' v w' ?_
 ·cases x with
  | tmp k =>
   show (if Operand.tmp k∈o.op.operands.toList then vw id b (f k) else f' k)=vw id b (f k)
   rw [if_pos (by simpa using hxm)]
  | const v=>rfl
  | _=>rfl
 ·have hne:q.1≠id:=fun e=>by
   have:(keys rd).contains id=true:=List.contains_iff_mem.2 (List.mem_map.2 ⟨q,hq,e⟩)
   rw [this] at hr; cases hr
  rw [va hne]
  exact hrd q (List.mem_cons_of_mem _ hq)
 ·have e1:upl (upl own [(id,some (some (.box (some b) t cs)))]) wr id=some (some (.box (some b) t cs)):=by rw [Zb _ _ _ hidw]; exact vm
  obtain ⟨b',l',r1,r2,_⟩:=hR'.ob id _ e1
  have hbb:b=b':=r2 b rfl
  subst hbb
  refine Rel.view (an2:=an) hR' e1 ?_ (fun q hq b' hb' => ?_) fun k v hv => ?_
  ·funext i
   by_cases hi:i=id
   ·subst hi; rw [vm,Zb _ _ _ hidw]; exact ho
   ·rw [va hi]
    by_cases hm:i∈keys wr
    ·exact y0d _ _ _ _ hm
    ·rw [Zb _ _ _ hm,Zb _ _ _ hm,va hi]
  ·rw [r1] at hb'; cases hb'
   exact q2 q hq
  ·have hk2:∀ v,RepS g' w' (Mof X g' (upl (upl own [(id,some (some (.box (some b) t cs)))]) wr)) (f2 k) v→RepS g' w' (Mof X g' (upl (upl own [(id,some (some (.box (some b) t cs)))]) wr)) (f' k) v:=fun v hv=>by
    by_cases hk:Operand.tmp k∈o.op.operands.toList
    ·have:f2 k=vw id b (f k):=if_pos hk
     rw [this] at hv
     rw [e0 k hk]
     exact y95 r1 hv
    ·have:f2 k=f' k:=if_neg hk
     rw [this] at hv; exact hv
   cases hdst:o.dst with
   | none =>
    rw [hdst] at hv
    exact hk2 v hv
   | some d =>
    rw [hdst] at hv
    simp only [updS] at hv ⊢
    cases hkd:Nat.beq k d
    ·rw [hkd] at hv; exact hk2 v hv
    ·rw [hkd] at hv; exact y95 r1 hv
end
section
variable {P:Program} {f:Nat→Slot} {dst:Option Tmp} {ty:TypeId} {pos:String} {af:Array Edge} {ops:Array Oper} {os:List Oper} {own:Own} {lg:List (List Nat×List Nat)} {K:(Nat→Slot)→Own→List (List Nat×List Nat)→Prop}
end
section
variable {P:Program} {X:Ctx} {Q:Exit→(Nat→Slot)→Own→Prop} {c:Code} {f:Nat→Slot} {own:Own}
theorem z94 (i j id:Nat) {an:Option Nat} {t e:TypeId} {size n:Nat} {cs:List Slot} {es:List (List V)} (hb:own i=some (some (.box an t cs))) (hj:cs[j]?=some (.row id n)) (ho:own id=some (some (.row e size es))) (hn:n=es.length)
  (h:AWP P X c Q f (upl (upl own [(id,some none)]) [(i,some (some (.box an t (cs.set j (.dat (vlst es))))))])):AWP P X c Q f own:=by
 intro g a w hr
 subst hn
 have hne:i≠id:=by rintro rfl; rw [hb] at ho; cases ho
 have key:∀ k o,upl (upl own [(id,some none)]) [(i,some (some (.box an t (cs.set j (.dat (vlst es))))))] k=some (some o)→k≠id∧((k=i∧o = .box an t (cs.set j (.dat (vlst es))))∨(k≠i∧own k=some (some o))):=fun k o hk=>by
  by_cases hki:k=i
  ·subst hki
   rw [vm] at hk; cases hk
   exact ⟨hne,.inl ⟨rfl,rfl⟩⟩
  ·rw [va hki] at hk
   by_cases hkd:k=id
   ·subst hkd; rw [vm] at hk; cases hk
   ·rw [va hkd] at hk
    exact ⟨hkd,.inr ⟨hki,hk⟩⟩
 have keyo:∀ k o,upl (upl own [(id,some none)]) [(i,some (some (.box an t (cs.set j (.dat (vlst es))))))] k=some (some o)→k≠id∧∃ o',own k=some (some o')∧obk g k o'=obk g k o:=fun k o hk=>by
  obtain ⟨h1,h2⟩:=key k o hk
  rcases h2 with ⟨rfl,rfl⟩ | ⟨_,h2⟩
  ·exact ⟨h1,_,hb,rfl⟩
  ·exact ⟨h1,o,h2,rfl⟩
 have hM:∀ b,Mof X g (upl (upl own [(id,some none)]) [(i,some (some (.box an t (cs.set j (.dat (vlst es))))))]) b→Mof X g own b:=fun b hb=>by
  rcases hb with hb | ⟨k,o,h1,h2⟩
  ·exact .inl hb
  ·obtain ⟨_,o',h3,h4⟩:=keyo k o h1
   exact .inr ⟨k,o',h3,h4.trans h2⟩
 have he:Ext (Mof X g own) (Mof X g (upl (upl own [(id,some none)]) [(i,some (some (.box an t (cs.set j (.dat (vlst es))))))])) w w:=⟨Nat.le_refl _,fun _ _ _ _=>rfl,fun b _ hb=>hM b hb⟩
 have hfz:∀ x,g.sv id es.length=some x→(vlst es).p w (Mof X g (upl (upl own [(id,some none)]) [(i,some (some (.box an t (cs.set j (.dat (vlst es))))))])) x:=fun x hv=>by
  obtain ⟨v',xs,q1,q2,q3,q4,q5⟩:=hr.ob id _ ho
  rw [hv] at q1
  cases q1
  rcases q2.2 with ⟨r1,r2⟩ | ⟨b,cap,cur,r1,_,hb2,hnc,_,hcs,htk⟩
  ·have:es=[]:=List.eq_nil_of_length_eq_zero r2
   subst this
   exact ⟨none,0,r1,Nat.le_refl _,fun h=>absurd rfl h⟩
  ·have hobk:obk g id (.row e size es)=some b:=by simp only [obk]; rw [hv,r1]; rfl
   refine ⟨_,cap,r1,hnc,fun _=>⟨b,0,size,rfl,?_,cur,e,(0,0),hb2,q4,fun k c el u hk hc => ?_⟩⟩
   ·rintro (hM0 | ⟨k,o,h1,h2⟩)
    ·have h5:=hr.m0.1 b hM0
     rcases hr.mine id _ b ho hobk with h6 | h6
     ·exact h5.2 h6
     ·omega
    ·obtain ⟨h3,o',h4,h5⟩:=keyo k o h1
     exact h3 (hr.sep k id o' _ b h4 ho (h5.trans h2) hobk)
   ·obtain ⟨x,s1,s2,s3⟩:=q5 k c el u hk hc
    refine ⟨x,?_,u.keep he s2,s3⟩
    rw [← htk,List.getElem?_take] at s1
    split at s1
    ·rw [Nat.zero_add]; simpa using s1
    ·cases s1
 refine h g a w ⟨hr.kp,hr.m0,hr.n,hr.df,fun t'=>(hr.fr t').keep he (Gh.le_refl g),fun k o h1 => ?_,fun k k' o o' b h1 h2 h3 h4 => ?_,fun k o b h1 h2 => ?_,fun k h1 => ?_,fun k e' s' es' h1 => ?_⟩
 ·obtain ⟨_,h2⟩:=key k o h1
  rcases h2 with ⟨rfl,rfl⟩ | ⟨_,h2⟩
  ·obtain ⟨b0,l0,q1,q0,q2,q3,q4⟩:=hr.ob k _ hb
   refine ⟨b0,l0,q1,q0,q2,by rw [List.length_set]; exact q3,fun m s hs => ?_⟩
   rw [List.getElem?_set] at hs
   split at hs
   ·rename_i hjm
    subst hjm
    split at hs
    ·cases hs
     obtain ⟨x,x1,x2,x3⟩:=q4 j _ hj
     exact ⟨x,x1,hfz x x2,x3⟩
    ·cases hs
   ·obtain ⟨x,x1,x2,x3⟩:=q4 m s hs
    exact ⟨x,x1,x2.keep he (Gh.le_refl g),x3⟩
  ·exact (hr.ob k o h2).keep he (Gh.le_refl g) (fun _ _=>rfl)
 ·obtain ⟨_,p,p1,p2⟩:=keyo k o h1
  obtain ⟨_,p',p3,p4⟩:=keyo k' o' h2
  exact hr.sep k k' p p' b p1 p3 (p2.trans h3) (p4.trans h4)
 ·obtain ⟨_,p,p1,p2⟩:=keyo k o h1
  exact hr.mine k p b p1 (p2.trans h2)
 ·by_cases hki:k=i
  ·subst hki; rw [vm] at h1; cases h1
  ·rw [va hki] at h1
   by_cases hkd:k=id
   ·subst hkd; rw [vm] at h1; cases h1
   ·rw [va hkd] at h1; exact hr.fresh k h1
 ·obtain ⟨_,h2⟩:=key k _ h1
  rcases h2 with ⟨_,h2⟩ | ⟨_,h2⟩
  ·cases h2
  ·exact hr.top k e' s' es' h2
end
end Go.Proofs.YtnnfdgngnoamoaaGreatDoor
