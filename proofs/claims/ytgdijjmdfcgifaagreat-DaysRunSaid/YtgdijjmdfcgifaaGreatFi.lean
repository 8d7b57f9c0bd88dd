/- The abstract machine: calls that take closed own objects (families too) and give others; of several outcomes. -/
import Derived.Test.YtgdijjmdfcgifaaGreatOw
import Derived.LaidEqlPtr
import Derived.Test.YtgdijjmdfcgifaaGreatAg
import Derived.Test.YtgdijjmdfcgifaaGreatRng
import Derived.Test.YtgdijjmdfcgifaaGreatMr
import Derived.Test.YtgdijjmdfcgifaaGreatMc
namespace Go.Proofs.YtgdijjmdfcgifaaGreat
open Go.RowKit
set_option linter.unusedVariables false
abbrev PB (b:Nat):Value := .pointer (some ⟨b,0,none⟩)
section
variable {P:Program} {X:Ctx} {Q:Exit→(Nat→Slot)→Own→Prop} {f:Nat→Slot} {own:Own} {c:Code}
theorem wj (t id b:Nat) {bt:TypeId} {cs:List Slot} (s':Slot) (ho:own id=some (some (.box (some b) bt cs))) (hs:∀ (g:Gh) (w:World) (M:Blks) (v:Value),g.bl id=some b→RepS g w M (f t) v→RepS g w M s' v)
  (h:AWP P X c Q (updS f (some t) s') own):AWP P X c Q f own:=by
 intro g a w hr
 obtain ⟨b',l,q1,q0,_⟩:=hr.ob id _ ho
 have hb:b=b':=q0 b rfl
 subst hb
 refine h g a w ⟨hr.kp,hr.m0,hr.n,hr.df,fun k => ?_,hr.ob,hr.sep,hr.mine,hr.fresh,hr.top⟩
 by_cases hk:k=t
 ·subst hk
  have e1:Nat.beq k k=true:=by simp
  simp only [updS,e1,cond_true]
  exact hs g w _ _ q1 (hr.fr k)
 ·have e1:Nat.beq k t=false:=qu hk
  simp only [updS,e1,cond_false]
  exact hr.fr k
theorem Wn (i j id b:Nat) {bt t:TypeId} {cs0 cs:List Slot} {an:Option Nat} {s:Slot} (s':Slot) (hb:own id=some (some (.box (some b) bt cs0))) (ho:own i=some (some (.box an t cs))) (hj:cs[j]?=some s)
  (hs:∀ (g:Gh) (w:World) (M:Blks) (v:Value),g.bl id=some b→RepS g w M s v→RepS g w M s' v)
  (h:AWP P X c Q f (upl own [(i,some (some (.box an t (cs.set j s'))))])):AWP P X c Q f own:=by
 intro g a w hr
 obtain ⟨b',l',r1,r0,_⟩:=hr.ob id _ hb
 have hbb:b=b':=r0 b rfl
 subst hbb
 obtain ⟨q,l,q1,q0,q2,q3,q4⟩:=hr.ob i _ ho
 refine h g a w (hr.re1 i ho rfl (fun M' he=>⟨q,l,q1,q0,q2,by rw [List.length_set]; exact q3,fun k s0 hk => ?_⟩) (fun e size es h=>by cases h))
 rw [List.getElem?_set] at hk
 split at hk
 ·rename_i hjk
  subst hjk
  split at hk
  ·cases hk
   obtain ⟨x,x1,x2,x3⟩:=q4 j s hj
   exact ⟨x,x1,hs g w _ x r1 (x2.keep he (Gh.le_refl g)),x3⟩
  ·cases hk
 ·obtain ⟨x,x1,x2,x3⟩:=q4 k s0 hk
  exact ⟨x,x1,x2.keep he (Gh.le_refl g),x3⟩
theorem ko (b:Bool) (ht:b=true→AWP P X c Q f own) (hf:b=false→AWP P X c Q f own):AWP P X c Q f own:=by
 cases b with
 | true=>exact ht rfl
 | false=>exact hf rfl
end
theorem jc {g:Gh} {w:World} {M:Blks} {v:Value} {id b:Nat} (hb:g.bl id=some b) (h:RepS g w M (.ptr id 0) v):RepS g w M (.dat (vval (PB b))) v:=by
 obtain ⟨b',h1,h2⟩:=h
 rw [hb] at h1; cases h1
 exact h2
theorem vx {g:Gh} {w:World} {M:Blks} {v:Value} {id b:Nat} (hb:g.bl id=some b) (h:RepS g w M (.dat (vval (PB b))) v):RepS g w M (.ptr id 0) v:=⟨b,hb,h⟩
section
variable {P:Program} {f:Nat→Slot} {dst:Option Tmp} {ty:TypeId} {pos:String} {af:Array Edge} {gd:Option (Nat×Bool)}
end
end Go.Proofs.YtgdijjmdfcgifaaGreat
namespace Go.Proofs.YtgdijjmdfcgifaaGreat
open Go.RowKit Go.ChangeMaps Go.MapKept
set_option linter.unusedVariables false
section
variable {P:Program} {f:Nat→Slot} {dst:Option Tmp} {ty:TypeId} {pos:String} {af:Array Edge} {gd:Option (Nat×Bool)}
theorem y5j {g:Gh} {w:World} {M:Blks} {f':Nat→Slot} {d:Option Nat} {s s':Slot} (hs:∀ v,RepS g w M s v→RepS g w M s' v) (k:Nat) (v:Value) (h:RepS g w M (updS f' d s k) v):RepS g w M (updS f' d s' k) v:=by
 cases d with
 | none=>exact h
 | some d =>
  simp only [updS] at h ⊢
  cases hb:Nat.beq k d
  ·rw [hb] at h; exact h
  ·rw [hb] at h; exact hs v h
variable {κ τ:Type} {an:Option Nat} {t kt et:TypeId} {T:MT κ τ} {l:List (κ×τ)} {x y:Operand} {id:Nat}
end
end Go.Proofs.YtgdijjmdfcgifaaGreat
namespace Go.Proofs.YtgdijjmdfcgifaaGreat
open Go.RowKit
set_option linter.unusedVariables false
section
variable {P:Program} {ops:Array Oper} {X:Ctx} {Q:Exit→Act→World→Prop}
theorem y28 (m:Nat) (Inv:Array Bool→Prop) (T:Nat→Tr) (f:Nat→Slot) (own:Own) (hE:Qa ops=true) (hN:xw X.N ops=true)
  (hinv:∀ (listed:Array Bool) i,i≠m→Inv listed→Inv (listed.setIfInBounds i true))
  (hsubm:∀ k,k∈keys (T m).wr→k∈keys (T m).rd)
  (hT:∀ i o,i≠m→ops[i]?=some o→z0z P ops o (memD (Wf ops T) (fun _=>true) f i) (memD (Wo T) (fun _=>true) own i) (T i))
  (hC:∀ i j,i < j→j < ops.size→ww ops (fun i=>keys (T i).rd) (fun i=>keys (T i).wr) i j=true→i∈jk ops ops.size j)
  (hQ:∀ listed,Inv listed→(∀ i,i < ops.size→listed.getD i false=true)→∀ g a w,Rel X (memD (Wf ops T) (fun _=>true) f ops.size) (memD (Wo T) (fun _=>true) own ops.size) g a w→Q .normal a w)
  (hcb:∀ (fuel:Nat) (listed:Array Bool) (g:Gh) (a:Act) (w:World),Inv listed→listed.size=ops.size→cnt (fun i=>listed.getD i false) ops.size=fuel+1 →
   (∀ j o,ops[j]?=some o→listed.getD j false=true→∀ e∈o.after,Region.binds .any e=true→listed.getD e.on false=true)→m < ops.size→listed.getD m false=false →
   (∀ o,ops[m]?=some o→∀ e∈o.after,Region.binds .any e=true→listed.getD e.on false=true)→(∀ j,m∈jk ops ops.size j→listed.getD j false=false) →
   (∀ t,t∈Yt ops m→memD (Wf ops T) (fun i=>listed.getD i false) f ops.size t=memD (Wf ops T) (fun _=>true) f m t) →
   (∀ q,q∈keys (T m).rd→memD (Wo T) (fun i=>listed.getD i false) own ops.size q=memD (Wo T) (fun _=>true) own m q) →
   Rel X (memD (Wf ops T) (fun i=>listed.getD i false) f ops.size) (memD (Wo T) (fun i=>listed.getD i false) own ops.size) g a w →
   wpOpIn (FR X.R) 0 P ops Q m (wpAnyIn (FR X.R) 0 P .any ops Q fuel (listed.setIfInBounds m true)) a w) :
  ∀ (fuel:Nat) (listed:Array Bool) (g:Gh) (a:Act) (w:World),Inv listed→listed.size=ops.size→cnt (fun i=>listed.getD i false) ops.size=fuel →
   (∀ j o,ops[j]?=some o→listed.getD j false=true→∀ e∈o.after,Region.binds .any e=true→listed.getD e.on false=true) →
   Rel X (memD (Wf ops T) (fun i=>listed.getD i false) f ops.size) (memD (Wo T) (fun i=>listed.getD i false) own ops.size) g a w→wpAnyIn (FR X.R) 0 P .any ops Q fuel listed a w:=by
 have hget:∀ (listed:Array Bool) i,listed.size=ops.size→i < ops.size→listed.getD i true=listed.getD i false:=by
  intro listed i hs hi
  rw [Array.getD_eq_getD_getElem?,Array.getD_eq_getD_getElem?,Array.getElem?_eq_getElem (by omega)]
  rfl
 intro fuel
 induction fuel with
 | zero =>
  intro listed g a w hI hs hc hd hr
  have hall:=x0s hc
  refine ⟨?_,?_⟩
  ·refine List.eq_nil_iff_forall_not_mem.2 fun i hi => ?_
   obtain ⟨h1,o,ho,_⟩:=mem_ready.1 hi
   have hlt:i < ops.size:=(Array.getElem?_eq_some_iff.1 ho).1
   rw [hget listed i hs hlt,hall i hlt] at h1
   cases h1
  ·rw [z56 hall,z56 hall] at hr
   exact hQ listed hI hall g a w hr
 | succ fuel ih =>
  intro listed g a w hI hs hc hd hr
  refine ⟨fun hnil => ?_,fun i hi => ?_⟩
  ·exfalso
   by_cases hex:∃ i,i < ops.size∧listed.getD i false=false
   ·obtain ⟨i,h1,h2⟩:=hex
    obtain ⟨m,h3,h4,h5⟩:=y80 (D:=fun i=>listed.getD i false) ops.size i h1 h2
    have hm:m∈Region.ready .any ops listed:=by
     refine mem_ready.2 ⟨by rw [hget listed m hs h3]; exact h4,ops[m],Array.getElem?_eq_getElem h3,fun e he hb => ?_⟩
     unfold Qa at hE
     rw [List.all_eq_true] at hE
     have h6:=hE m (List.mem_range.2 h3)
     rw [Array.getElem?_eq_getElem h3] at h6
     rw [List.all_eq_true] at h6
     have h7:=h6 e (Array.mem_toList_iff.2 he)
     rw [hb] at h7
     have h8:e.on < m:=by simpa [Nat.blt_eq] using h7
     exact h5 e.on h8
    rw [hnil] at hm
    cases hm
   ·have hz:∀ i,i < ops.size→listed.getD i false=true:=fun i hi=>by
     cases h:listed.getD i false
     ·exact absurd ⟨i,hi,h⟩ hex
     ·rfl
    have:∀ n,n≤ops.size→cnt (fun i=>listed.getD i false) n=0:=by
     intro n
     induction n with
     | zero=>intro _; rfl
     | succ n ihn=>intro hn; simp only [cnt,ihn (by omega),hz n (by omega)]; rfl
    rw [this ops.size (Nat.le_refl _)] at hc
    omega
  ·obtain ⟨h1,o,ho,hall⟩:=mem_ready.1 hi
   have hlt:i < ops.size:=(Array.getElem?_eq_some_iff.1 ho).1
   rw [hget listed i hs hlt] at h1
   -- who is ahead of i is done; who is behind is not
   have hfore:∀ j,i∈jk ops ops.size j→listed.getD j false=false:=fun j hj=>by
    cases h:listed.getD j false
    ·rfl
    ·have:=z7v (D:=fun i=>listed.getD i false) hd ops.size j i hj h
     simp only [h1] at this
     cases this
   have hback:∀ j,j∈jk ops ops.size i→listed.getD j false=true:=by
    intro j hj
    have hD2:∀ j' o',ops[j']?=some o'→(fun x=>listed.getD x false || decide (x=i)) j'=true→∀ e∈o'.after,Region.binds .any e=true→(fun x=>listed.getD x false || decide (x=i)) e.on=true:=by
     intro j' o' ho' hj' e he hb
     by_cases hji:j'=i
     ·subst hji
      rw [ho] at ho'
      cases ho'
      simp only [hall e he hb,Bool.true_or]
     ·have:listed.getD j' false=true:=by simpa [hji] using hj'
      simp only [hd j' o' ho' this e he hb,Bool.true_or]
    have h2:=z7v hD2 ops.size i j hj (by simp)
    by_cases hji:j=i
    ·subst hji
     have:=hfore j hj
     exfalso
     have hlt2:∀ n q,q∈jk ops n j→q < j:=by
      have hE':=hE
      unfold Qa at hE'
      rw [List.all_eq_true] at hE'
      have key:∀ n m q,m < ops.size→q∈jk ops n m→q < m:=by
       intro n
       induction n with
       | zero=>intro m q _ h; cases h
       | succ n ihn =>
        intro m q hm h
        unfold jk at h
        rw [Array.getElem?_eq_getElem hm] at h
        simp only [List.mem_flatMap,Array.mem_toList_iff] at h
        obtain ⟨e,he,hq⟩:=h
        by_cases hb:Region.binds .any e=true
        ·rw [if_pos hb] at hq
         have h6:=hE' m (List.mem_range.2 hm)
         rw [Array.getElem?_eq_getElem hm] at h6
         rw [List.all_eq_true] at h6
         have h7:=h6 e (Array.mem_toList_iff.2 he)
         rw [hb] at h7
         have h8:e.on < m:=by simpa [Nat.blt_eq] using h7
         rcases List.mem_cons.1 hq with rfl | hq
         ·exact h8
         ·have:=ihn e.on q (by omega) hq
          omega
        ·rw [if_neg hb] at hq; cases hq
      exact fun n q hq=>key n j q hlt hq
     have:=hlt2 _ _ hj
     omega
    ·simpa [hji] using h2
   have hcl1:∀ j,j < i→ww ops (fun i=>keys (T i).rd) (fun i=>keys (T i).wr) j i=true→listed.getD j false=true:=fun j hj hc=>hback j (hC j i hj hlt hc)
   have hcl2:∀ j,i < j→j < ops.size→ww ops (fun i=>keys (T i).rd) (fun i=>keys (T i).wr) i j=true→listed.getD j false=false:=fun j hj hjn hc=>hfore j (hC i j hj hjn hc)
   have hself:∀ j,i≤j→j < ops.size→ww ops (fun i=>keys (T i).rd) (fun i=>keys (T i).wr) i j=true→listed.getD j false=false:=fun j hj hjn hc=>by
    rcases Nat.lt_or_ge i j with h | h
    ·exact hcl2 j h hjn hc
    ·obtain rfl:i=j:=by omega
     exact h1
   have hkf:∀ j d,d∈keys (Wf ops T j)→d∈z0v ops j:=by
    intro j d hd
    unfold Wf at hd
    unfold z0v
    cases hq:(ops[j]?).bind (·.dst) with
    | none=>rw [hq] at hd; cases hd
    | some d'=>rw [hq] at hd; simpa [keys] using hd
   have hlooks:Yt ops i=o.looksAt ops:=by simp [Yt,ho]
   have hf:∀ t,t∈Yt ops i→memD (Wf ops T) (fun i=>listed.getD i false) f ops.size t=memD (Wf ops T) (fun _=>true) f i t:=fun t ht =>
    z9s (Nat.le_of_lt hlt)
     (fun j hj hk=>hcl1 j hj (by unfold ww; rw [Zc (hkf j t hk) ht]; simp))
     (fun j hj hjn hk=>hself j hj hjn (by unfold ww; rw [Zc (hkf j t hk) ht]; simp))
   have ho':∀ q,q∈keys (T i).rd→memD (Wo T) (fun i=>listed.getD i false) own ops.size q=memD (Wo T) (fun _=>true) own i q:=fun q hq =>
    z9s (Nat.le_of_lt hlt)
     (fun j hj hk=>hcl1 j hj (by unfold ww; rw [Zc (a:=keys (T j).wr) hk hq]; simp))
     (fun j hj hjn hk=>hself j hj hjn (by unfold ww; rw [Zc (b:=keys (T j).wr) hq hk]; simp))
   by_cases him:i=m
   ·subst him
    exact hcb fuel listed g a w hI hs hc hd hlt h1 (fun o' ho2=>by rw [ho] at ho2; cases ho2; exact hall) hfore hf ho' hr
   obtain ⟨hgd,hrun,hskip,hsub⟩:=hT i o him ho
   -- the next state
   have hset:∀ j,(listed.setIfInBounds i true).getD j false=(listed.getD j false || decide (j=i)):=by
    intro j
    rw [Array.getD_eq_getD_getElem?,Array.getD_eq_getD_getElem?,Array.getElem?_setIfInBounds]
    by_cases hj:i=j
    ·subst hj; simp [hs,hlt]
    ·rw [if_neg hj]; simp [Ne.symm hj]
   have hmf:memD (Wf ops T) (fun j=>(listed.setIfInBounds i true).getD j false) f ops.size=updS (memD (Wf ops T) (fun i=>listed.getD i false) f ops.size) o.dst (T i).s:=by
    rw [z3k hlt h1 hset,z2t]
    ·unfold Wf; rw [ho]; rfl
    ·intro j hj hjn hDj k hk1 hk2
     have:=hcl2 j hj hjn (by unfold ww; rw [Zc (hkf i k hk1) (hkf j k hk2)]; simp)
     rw [this] at hDj; cases hDj
   have hmo:memD (Wo T) (fun j=>(listed.setIfInBounds i true).getD j false) own ops.size=upl (memD (Wo T) (fun i=>listed.getD i false) own ops.size) (T i).wr:=by
    rw [z3k hlt h1 hset]
    ·rfl
    ·intro j hj hjn hDj k hk1 hk2
     have hjo:∃ oj,ops[j]?=some oj:=⟨ops[j],Array.getElem?_eq_getElem hjn⟩
     obtain ⟨oj,hoj⟩:=hjo
     have:=hcl2 j hj hjn (by unfold ww; rw [Zc (a:=keys (T i).wr) hk1 ((show ∀ k,k∈keys (T j).wr→k∈keys (T j).rd from by
      by_cases hjm:j=m
      ·rw [hjm]; exact hsubm
      ·exact (hT j oj hjm hoj).2.2.2) k hk2)]; simp)
     rw [this] at hDj; cases hDj
   have hnext:∀ g' v w',Rel X (updS (memD (Wf ops T) (fun i=>listed.getD i false) f ops.size) o.dst (T i).s) (upl (memD (Wo T) (fun i=>listed.getD i false) own ops.size) (T i).wr) g' (a.put o.dst v) w' →
     wpAnyIn (FR X.R) 0 P .any ops Q fuel (listed.setIfInBounds i true) (a.put o.dst v) w':=by
    intro g' v w' hr'
    refine ih _ g' _ w' (hinv _ _ him hI) (by simpa using hs) ?_ ?_ ?_
    ·have:=y1c (D:=fun i=>listed.getD i false) hlt h1 hset
     omega
    ·intro j o' ho'' hj e he hb
     rw [hset] at hj ⊢
     by_cases hji:j=i
     ·subst hji
      rw [ho] at ho''
      cases ho''
      rw [hall e he hb]; rfl
     ·have:listed.getD j false=true:=by simpa [hji] using hj
      rw [hd j o' ho'' this e he hb]; rfl
    ·rw [hmf,hmo]; exact hr'
   obtain ⟨hdN,hdf⟩:=z1o hN ho
   unfold wpOpIn
   rw [ho]
   have hw:Region.wanted o (yielded ops a.tmps) = !(T i).skip:=by
    refine z7y hr ?_
    cases hgo:o.guard with
    | none=>rw [hgo] at hgd; exact hgd
    | some q =>
     obtain ⟨j,want⟩:=q
     rw [hgo] at hgd
     obtain ⟨d,v,g1,g2,g3⟩:=hgd
     refine ⟨d,v,g1,?_,g3⟩
     rw [hf d (by rw [hlooks]; unfold Oper.looksAt; rw [hgo]; simp [g1])]
     exact g2
   cases hsk:(T i).skip with
   | false =>
    rw [hsk] at hw
    simp only [hw,Bool.not_false,if_true]
    obtain ⟨hst,hrd⟩:=hrun hsk
    refine z00 hdf (hst X _ _ g a w Q hr hdN (fun x hx => ?_) (fun q hq => ?_) _ hnext)
    ·cases x with
     | tmp t=>exact hf t (by rw [hlooks]; unfold Oper.looksAt; rw [List.mem_append]; exact .inl (List.mem_filterMap.2 ⟨_,by simpa using hx,rfl⟩))
     | _=>rfl
    ·rw [ho' q.1 (List.mem_map.2 ⟨q,hq,rfl⟩)]
     exact hrd q hq
   | true =>
    rw [hsk] at hw
    simp only [hw,Bool.not_true,Bool.false_eq_true,if_false]
    obtain ⟨e1,e2,e3⟩:=hskip hsk
    refine ⟨fun _ _=>trivial,hnext g undef w ?_⟩
    rw [e1,e3]
    exact hr.put o.dst (.dat (vval undef)) undef hdN rfl

theorem y67 {tl:List Oper}:∀ (os:List Oper) (i:Nat) (T:Nat→Tr) (f:Nat→Slot) (own:Own) (lg:List (List Nat×List Nat)) (K:(Nat→Slot)→Own→List (List Nat×List Nat)→Prop),
  ops.toList.drop i=os++tl→i≤ops.size→lg.length=i→(∀ j,j < i→lg.reverse[j]?=some (keys (T j).rd,keys (T j).wr)) →
  seqA P ops os (memD (Wf ops T) (fun _=>true) f i) (memD (Wo T) (fun _=>true) own i) lg K →
  ∃ (T':Nat→Tr) (lg':List (List Nat×List Nat)),(∀ j,j < i→T' j=T j)∧lg'.length=i+os.length∧(∀ j,j < i+os.length→lg'.reverse[j]?=some (keys (T' j).rd,keys (T' j).wr)) ∧
   (∀ j o,i≤j→j < i+os.length→ops[j]?=some o→z0z P ops o (memD (Wf ops T') (fun _=>true) f j) (memD (Wo T') (fun _=>true) own j) (T' j)) ∧
   K (memD (Wf ops T') (fun _=>true) f (i+os.length)) (memD (Wo T') (fun _=>true) own (i+os.length)) lg':=by
 intro os
 induction os with
 | nil =>
  intro i T f own lg K hos hi hl hlg h
  exact ⟨T,lg,fun _ _=>rfl,hl,hlg,fun j o hj hj2 ho=>by simp at hj2; omega,h⟩
 | cons o os ih =>
  intro i T f own lg K hos hi hl hlg h
  have hlt:i < ops.size:=by
   have h2:=congrArg List.length hos
   simp only [List.length_drop,List.length_append,List.length_cons,Array.length_toList] at h2
   omega
  have hoi:ops[i]?=some o:=by
   have h2:=List.drop_eq_getElem_cons (l:=ops.toList) (i:=i) (by simpa using hlt)
   rw [hos] at h2
   injection h2 with h3 h4
   rw [Array.getElem?_eq_getElem hlt]
   exact congrArg some h3.symm
  have hos':ops.toList.drop (i+1)=os++tl:=by
   have h2:=List.drop_eq_getElem_cons (l:=ops.toList) (i:=i) (by simpa using hlt)
   rw [hos] at h2
   injection h2 with h3 h4
   exact h4.symm
  obtain ⟨t,h1,h2⟩:=h
  let T1:Nat→Tr:=fun j=>if j=i then t else T j
  have hT1:∀ j,j < i→T1 j=T j:=fun j hj=>if_neg (by omega)
  have hT1i:T1 i=t:=if_pos rfl
  have hmF:∀ m,m≤i→memD (Wf ops T1) (fun _=>true) f m=memD (Wf ops T) (fun _=>true) f m:=by
   intro m
   induction m with
   | zero=>intro _; rfl
   | succ m ihm =>
    intro hm
    have:Wf ops T1 m=Wf ops T m:=by unfold Wf; rw [hT1 m (by omega)]
    simp only [memD,if_true,ihm (by omega),this]
  have hmO:∀ m,m≤i→memD (Wo T1) (fun _=>true) own m=memD (Wo T) (fun _=>true) own m:=by
   intro m
   induction m with
   | zero=>intro _; rfl
   | succ m ihm =>
    intro hm
    have:Wo T1 m=Wo T m:=by unfold Wo; rw [hT1 m (by omega)]
    simp only [memD,if_true,ihm (by omega),this]
  have eF:memD (Wf ops T1) (fun _=>true) f (i+1)=updS (memD (Wf ops T) (fun _=>true) f i) o.dst t.s:=by
   simp only [memD,if_true,hmF i (Nat.le_refl _),z2t]
   unfold Wf; rw [hoi,hT1i]; rfl
  have eO:memD (Wo T1) (fun _=>true) own (i+1)=upl (memD (Wo T) (fun _=>true) own i) t.wr:=by
   simp only [memD,if_true,hmO i (Nat.le_refl _)]
   unfold Wo; rw [hT1i]
  rw [← eF,← eO] at h2
  obtain ⟨T',lg',a1,a2,a3,a4,a5⟩:=ih (i+1) T1 f own _ K hos' hlt (by simp [hl]) (fun j hj=>by
   rw [List.reverse_cons]
   rcases Nat.lt_or_ge j i with hl' | hl'
   ·rw [List.getElem?_append_left (by simp; omega),hlg j hl',hT1 j hl']
   ·obtain rfl:j=i:=by omega
    rw [List.getElem?_append_right (by simp [hl]),hT1i]; simp [hl]) h2
  have hn:i+1+os.length=i+(o::os).length:=by simp only [List.length_cons]; omega
  rw [hn] at a2 a3 a4 a5
  refine ⟨T',lg',fun j hj=>(a1 j (by omega)).trans (hT1 j hj),a2,a3,fun j o' hj hj2 ho' => ?_,a5⟩
  rcases Nat.lt_or_ge i j with hl' | hl'
  ·exact a4 j o' hl' hj2 ho'
  ·obtain rfl:j=i:=by omega
   rw [hoi] at ho'
   cases ho'
   have e1:T' j=t:=(a1 j (by omega)).trans hT1i
   have eF':memD (Wf ops T') (fun _=>true) f j=memD (Wf ops T) (fun _=>true) f j:=by
    have:∀ m,m≤j→memD (Wf ops T') (fun _=>true) f m=memD (Wf ops T) (fun _=>true) f m:=by
     intro m
     induction m with
     | zero=>intro _; rfl
     | succ m ihm =>
      intro hm
      have:Wf ops T' m=Wf ops T m:=by unfold Wf; rw [a1 m (by omega),hT1 m (by omega)]
      simp only [memD,if_true,ihm (by omega),this]
    exact this j (Nat.le_refl _)
   have eO':memD (Wo T') (fun _=>true) own j=memD (Wo T) (fun _=>true) own j:=by
    have:∀ m,m≤j→memD (Wo T') (fun _=>true) own m=memD (Wo T) (fun _=>true) own m:=by
     intro m
     induction m with
     | zero=>intro _; rfl
     | succ m ihm =>
      intro hm
      have:Wo T' m=Wo T m:=by unfold Wo; rw [a1 m (by omega),hT1 m (by omega)]
      simp only [memD,if_true,ihm (by omega),this]
    exact this j (Nat.le_refl _)
   rw [e1,eF',eO']
   exact h1
theorem Qx {β:Type} {W W':Nat→List (Nat×β)} {D:Nat→Bool} {f:Nat→β}:∀ (n:Nat),(∀ j,j < n→D j=true→W j=W' j)→memD W D f n=memD W' D f n
 | 0,_=>rfl
 | n+1,h=>by
  have ih:=Qx (f:=f) n fun j hj=>h j (by omega)
  simp only [memD,ih]
  cases hD:D n with
  | false=>rfl
  | true=>simp only [if_true,h n (by omega) hD]
def StpI {ι:Type} (P:Program) (o:Oper) (f:Nat→Slot) (rd:List (Nat×Option (Option AObj))) (s:ι→Slot) (wr:ι→List (Nat×Option (Option AObj))):Prop:=
 ∀ (X:Ctx) (f':Nat→Slot) (own:Own) (g:Gh) (a:Act) (w:World) (Q:Exit→Act→World→Prop),Rel X f' own g a w→(∀ d,o.dst=some d→d < X.N) →
  (∀ x,x∈o.op.operands→evS f' x=evS f x)→(∀ q,q∈rd→own q.1=q.2) →
  ∀ K:Act→World→Prop,(∀ b g' v w',Rel X (updS f' o.dst (s b)) (upl own (wr b)) g' (a.put o.dst v) w'→K (a.put o.dst v) w')→o.wp P a w K Q
theorem y6u {o:Oper} {f:Nat→Slot} {id:Nat} {t:TypeId} {cs:List Slot} (h:Stp P o f ⟨false,[(id,none)],[(id,some (some (.box none t cs)))],.ptr id 0⟩) :
  StpI P o f [(id,none)] (fun b:Nat => .dat (vval (PB b))) (fun b=>[(id,some (some (.box (some b) t cs)))]):=by
 intro X f' own g a w Q hr hd hx hrd K hK
 refine h X f' own g a w Q hr hd hx hrd K fun g' v w' hR => ?_
 have ho:upl own [(id,some (some (.box none t cs)))] id=some (some (.box none t cs)):=je
 obtain ⟨b,l,q1,q0,q2⟩:=hR.ob id _ ho
 refine hK b g' v w' ?_
 refine hR.view (id:=id) (an2:=some b) ho ?_ (fun q hq b' hb'=>by cases hq; rw [q1] at hb'; exact Option.some.inj hb') fun k v hv => ?_
 ·funext i
  by_cases hi:i=id
  ·subst hi; rw [je,je]
  ·rw [jb hi,jb hi,jb hi]
 ·refine y5j (fun v hv => ?_) k v hv
  obtain ⟨b',h1,h2⟩:=hv
  rw [q1] at h1; cases h1
  exact h2
theorem x57 {ι:Type} (i0:ι) (m:Nat) (T:ι→Nat→Tr) (f:Nat→Slot) (own:Own) (o:Oper) (hom:ops[m]?=some o) (hg:o.guard=none) (hE:Qa ops=true) (hN:xw X.N ops=true)
  (hT:∀ b i o,i≠m→ops[i]?=some o→z0z P ops o (memD (Wf ops (T b)) (fun _=>true) f i) (memD (Wo (T b)) (fun _=>true) own i) (T b i))
  (hlow:∀ b j,j < m→T b j=T i0 j)
  (rd:List (Nat×Option (Option AObj))) (hrd:∀ b,(T b m).rd=rd) (hsub:∀ b k,k∈keys (T b m).wr→k∈keys rd)
  (hM:StpI P o (memD (Wf ops (T i0)) (fun _=>true) f m) rd (fun b=>(T b m).s) (fun b=>(T b m).wr)) (hMr:∀ q,q∈rd→memD (Wo (T i0)) (fun _=>true) own m q.1=q.2)
  (haft:∀ j,m < j→j < ops.size→m∈jk ops ops.size j)
  (hC:∀ b i j,i < j→j < ops.size→ww ops (fun i=>keys (T b i).rd) (fun i=>keys (T b i).wr) i j=true→i∈jk ops ops.size j)
  (hQ:∀ b g a w,Rel X (memD (Wf ops (T b)) (fun _=>true) f ops.size) (memD (Wo (T b)) (fun _=>true) own ops.size) g a w→Q .normal a w) :
  ∀ (fuel:Nat) (listed:Array Bool) (g:Gh) (a:Act) (w:World),listed.getD m false=false→listed.size=ops.size→cnt (fun i=>listed.getD i false) ops.size=fuel →
   (∀ j o,ops[j]?=some o→listed.getD j false=true→∀ e∈o.after,Region.binds .any e=true→listed.getD e.on false=true) →
   Rel X (memD (Wf ops (T i0)) (fun i=>listed.getD i false) f ops.size) (memD (Wo (T i0)) (fun i=>listed.getD i false) own ops.size) g a w→wpAnyIn (FR X.R) 0 P .any ops Q fuel listed a w:=by
 have hml:m < ops.size:=(Array.getElem?_eq_some_iff.1 hom).1
 have hset:∀ (listed:Array Bool),listed.size=ops.size→∀ i,i < ops.size→∀ j,(listed.setIfInBounds i true).getD j false=(listed.getD j false || decide (j=i)):=by
  intro listed hs i hi j
  rw [Array.getD_eq_getD_getElem?,Array.getD_eq_getD_getElem?,Array.getElem?_setIfInBounds]
  by_cases hj:i=j
  ·subst hj; simp [hs,hi]
  ·rw [if_neg hj]; simp [Ne.symm hj]
 have hset2:∀ (listed:Array Bool) i j,i≠j→(listed.setIfInBounds i true).getD j false=listed.getD j false:=by
  intro listed i j hij
  rw [Array.getD_eq_getD_getElem?,Array.getD_eq_getD_getElem?,Array.getElem?_setIfInBounds,if_neg hij]
 refine y28 (P:=P) (X:=X) (Q:=Q) m (fun listed=>listed.getD m false=false) (T i0) f own hE hN (fun listed i hi hI=>by rw [hset2 _ _ _ hi]; exact hI) (fun k hk=>by rw [hrd]; exact hsub i0 k hk) (hT i0) (hC i0) (fun listed hI hall=>by
  have:=hall m hml
  rw [hI] at this; cases this) ?_
 intro fuel listed g a w hI hs hc hd _ h1 hall hfore hf ho' hr
 have hno:∀ j,m≤j→j < ops.size→listed.getD j false=false:=fun j hj hjn=>by
  rcases Nat.lt_or_ge m j with h | h
  ·exact hfore j (haft j h hjn)
  ·obtain rfl:m=j:=by omega
   exact h1
 obtain ⟨hdN,hdf⟩:=z1o hN hom
 unfold wpOpIn
 rw [hom]
 have hw:Region.wanted o (yielded ops a.tmps)=true:=by unfold Region.wanted; rw [hg]
 simp only [hw,if_true]
 refine z00 hdf (hM X _ _ g a w Q hr hdN (fun x hx => ?_) (fun q hq => ?_) _ fun b g' v w' hr' => ?_)
 ·cases x with
  | tmp t=>exact hf t (by simp only [Yt,hom]; unfold Oper.looksAt; rw [List.mem_append]; exact .inl (List.mem_filterMap.2 ⟨_,by simpa using hx,rfl⟩))
  | _=>rfl
 ·rw [ho' q.1 (by rw [hrd]; exact List.mem_map.2 ⟨q,hq,rfl⟩)]
  exact hMr q hq
 ·have hcF:memD (Wf ops (T i0)) (fun i=>listed.getD i false) f ops.size=memD (Wf ops (T b)) (fun i=>listed.getD i false) f ops.size:=Qx _ fun j hj hD=>by
   rcases Nat.lt_or_ge j m with h | h
   ·unfold Wf; rw [hlow b j h]
   ·rw [hno j h hj] at hD; cases hD
  have hcO:memD (Wo (T i0)) (fun i=>listed.getD i false) own ops.size=memD (Wo (T b)) (fun i=>listed.getD i false) own ops.size:=Qx _ fun j hj hD=>by
   rcases Nat.lt_or_ge j m with h | h
   ·unfold Wo; rw [hlow b j h]
   ·rw [hno j h hj] at hD; cases hD
  have hs':=hset listed hs m hml
  have hmf:memD (Wf ops (T b)) (fun j=>(listed.setIfInBounds m true).getD j false) f ops.size=updS (memD (Wf ops (T i0)) (fun i=>listed.getD i false) f ops.size) o.dst (T b m).s:=by
   rw [z3k hml h1 hs',hcF,z2t]
   ·unfold Wf; rw [hom]; rfl
   ·intro j hj hjn hDj
    rw [hno j (by omega) hjn] at hDj; cases hDj
  have hmo:memD (Wo (T b)) (fun j=>(listed.setIfInBounds m true).getD j false) own ops.size=upl (memD (Wo (T i0)) (fun i=>listed.getD i false) own ops.size) (T b m).wr:=by
   rw [z3k hml h1 hs',hcO]
   ·rfl
   ·intro j hj hjn hDj
    rw [hno j (by omega) hjn] at hDj; cases hDj
  refine y28 (P:=P) (X:=X) (Q:=Q) m (fun listed=>listed.getD m false=true) (T b) f own hE hN (fun listed i hi hI=>by rw [hset2 _ _ _ hi]; exact hI) (fun k hk=>by rw [hrd]; exact hsub b k hk) (hT b) (hC b) (fun _ _ _=>hQ b) (fun fuel listed g a w hI _ _ _ _ h1=>by rw [h1] at hI; cases hI) fuel _ g' _ w' (by rw [hs']; simp) (by simpa using hs) ?_ ?_ ?_
  ·have:=y1c (D:=fun i=>listed.getD i false) hml h1 hs'
   omega
  ·intro j o' ho'' hj e he hb
   rw [hs'] at hj ⊢
   by_cases hji:j=m
   ·subst hji
    rw [hall o' ho'' e he hb]; rfl
   ·have:listed.getD j false=true:=by simpa [hji] using hj
    rw [hd j o' ho'' this e he hb]; rfl
  ·rw [hmf,hmo]; exact hr'

end
def aftB (ops:Array Oper) (m:Nat):Bool:=(List.range ops.size).all fun j => !Nat.blt m j || (jk ops ops.size j).contains m
section
variable {P:Program} {X:Ctx} {Q:Exit→(Nat→Slot)→Own→Prop} {f:Nat→Slot} {own:Own}
def seqI {ι:Type} (P:Program) (ops:Array Oper) (o:Oper) (os2:List Oper) (K:(Nat→Slot)→Own→List (List Nat×List Nat)→Prop) (f1:Nat→Slot) (own1:Own) (lg1:List (List Nat×List Nat)) (rd:List (Nat×Option (Option AObj))) (s:ι→Slot) (wr:ι→List (Nat×Option (Option AObj))):Prop:=
 StpI P o f1 rd s wr∧(∀ q,q∈rd→own1 q.1=q.2)∧(∀ b k,k∈keys (wr b)→k∈keys rd)∧∀ b,seqA P ops os2 (updS f1 o.dst (s b)) (upl own1 (wr b)) ((keys rd,keys (wr b))::lg1) K
theorem y4z {ι:Type} (i0:ι) {id N m:Nat} {ops:Array Oper} {os1 os2:List Oper} {o:Oper} (hm:P.follows .mixedOrders=true) (hX:X.N=N) (hops:ops.toList=os1++o::os2) (hlen:os1.length=m) (hg:o.guard=none) (hE:Qa ops=true) (hN:xw N ops=true) (haft:aftB ops m=true)
  (h:seqA P ops os1 f own [] fun f1 own1 lg1=>∃ rd s wr,seqI (ι:=ι) P ops o os2 (fun f2 own2 lg=>Zf ops lg.reverse=true∧Q .normal f2 own2) f1 own1 lg1 rd s wr):AWP P X (.region id ops true) Q f own:=by
 classical
 subst hX
 subst hlen
 intro g a w hr
 refine wpIn_region_any hm ?_
 have hsz:ops.size=os1.length+(os2.length+1):=by
  have:=congrArg List.length hops
  simpa using this
 have hom:ops[os1.length]?=some o:=by
  have:=congrArg (fun l=>l[os1.length]?) hops
  simpa using this
 obtain ⟨T1,lg1,_,a2,a3,a4,rd,s,wr,c1,c2,c3,c4⟩:=y67 (P:=P) (ops:=ops) (tl:=o::os2) os1 0 (fun _=>⟨false,[],[],.any⟩) f own [] _ (by simpa using hops) (Nat.zero_le _) rfl (fun j hj=>absurd hj (by omega)) h
 rw [Nat.zero_add] at a2 a3 a4 c1 c2
 simp only [Nat.zero_add] at c4
 let T2:ι→Nat→Tr:=fun b j=>if j=os1.length then ⟨false,rd,wr b,s b⟩ else T1 j
 have hT2:∀ b j,j≠os1.length→T2 b j=T1 j:=fun b j hj=>if_neg hj
 have hT2m:∀ b,T2 b os1.length=⟨false,rd,wr b,s b⟩:=fun b=>if_pos rfl
 have eW:∀ b n,n≤os1.length→memD (Wf ops (T2 b)) (fun _=>true) f n=memD (Wf ops T1) (fun _=>true) f n:=fun b n hn=>Qx _ fun j hj _=>by unfold Wf; rw [hT2 b j (by omega)]
 have eO:∀ b n,n≤os1.length→memD (Wo (T2 b)) (fun _=>true) own n=memD (Wo T1) (fun _=>true) own n:=fun b n hn=>Qx _ fun j hj _=>by unfold Wo; rw [hT2 b j (by omega)]
 have eW1:∀ b,memD (Wf ops (T2 b)) (fun _=>true) f (os1.length+1)=updS (memD (Wf ops T1) (fun _=>true) f os1.length) o.dst (s b):=fun b=>by
  simp only [memD,if_true,eW b _ (Nat.le_refl _),z2t]
  unfold Wf; rw [hom,hT2m]; rfl
 have eO1:∀ b,memD (Wo (T2 b)) (fun _=>true) own (os1.length+1)=upl (memD (Wo T1) (fun _=>true) own os1.length) (wr b):=fun b=>by
  simp only [memD,if_true,eO b _ (Nat.le_refl _)]
  unfold Wo; rw [hT2m]
 have hT3:∀ b,∃ (T':Nat→Tr) (lg':List (List Nat×List Nat)),(∀ j,j < os1.length+1→T' j=T2 b j)∧(∀ j,j < ops.size→lg'.reverse[j]?=some (keys (T' j).rd,keys (T' j).wr)) ∧
   (∀ j o,os1.length+1≤j→ops[j]?=some o→z0z P ops o (memD (Wf ops T') (fun _=>true) f j) (memD (Wo T') (fun _=>true) own j) (T' j)) ∧
   Zf ops lg'.reverse=true∧Q .normal (memD (Wf ops T') (fun _=>true) f ops.size) (memD (Wo T') (fun _=>true) own ops.size):=fun b=>by
  have h2:=c4 b
  rw [← eW1 b,← eO1 b] at h2
  obtain ⟨T',lg',b1,_,b3,b4,b5,b6⟩:=y68 (P:=P) (ops:=ops) os2 (os1.length+1) (T2 b) f own _ _ (by rw [hops,List.drop_append]; simp) (by omega) (by simp [a2]) (fun j hj=>by
   rw [List.reverse_cons]
   rcases Nat.lt_or_ge j os1.length with hl | hl
   ·rw [List.getElem?_append_left (by simp [a2]; omega),a3 j hl,hT2 b j (by omega)]
   ·obtain rfl:j=os1.length:=by omega
    rw [List.getElem?_append_right (by simp [a2]),hT2m]; simp [a2]) h2
  exact ⟨T',lg',b1,b3,b4,b5,b6⟩
 let T:ι→Nat→Tr:=fun b=>(hT3 b).choose
 have hTl:∀ b,∃ (lg':List (List Nat×List Nat)),(∀ j,j < os1.length+1→T b j=T2 b j)∧(∀ j,j < ops.size→lg'.reverse[j]?=some (keys (T b j).rd,keys (T b j).wr)) ∧
   (∀ j o,os1.length+1≤j→ops[j]?=some o→z0z P ops o (memD (Wf ops (T b)) (fun _=>true) f j) (memD (Wo (T b)) (fun _=>true) own j) (T b j)) ∧
   Zf ops lg'.reverse=true∧Q .normal (memD (Wf ops (T b)) (fun _=>true) f ops.size) (memD (Wo (T b)) (fun _=>true) own ops.size):=fun b=>(hT3 b).choose_spec
 have hT1:∀ b j,j < os1.length→T b j=T1 j:=fun b j hj=>by
  obtain ⟨_,b1,_⟩:=hTl b
  rw [b1 j (by omega),hT2 b j (by omega)]
 have hTm:∀ b,T b os1.length=⟨false,rd,wr b,s b⟩:=fun b=>by
  obtain ⟨_,b1,_⟩:=hTl b
  rw [b1 _ (by omega),hT2m]
 have fW:∀ b n,n≤os1.length→memD (Wf ops (T b)) (fun _=>true) f n=memD (Wf ops T1) (fun _=>true) f n:=fun b n hn=>Qx _ fun j hj _=>by unfold Wf; rw [hT1 b j (by omega)]
 have fO:∀ b n,n≤os1.length→memD (Wo (T b)) (fun _=>true) own n=memD (Wo T1) (fun _=>true) own n:=fun b n hn=>Qx _ fun j hj _=>by unfold Wo; rw [hT1 b j (by omega)]
 refine x57 (P:=P) (ops:=ops) (X:=X) i0 os1.length T f own o hom hg hE hN (fun b i o' hi ho' => ?_) (fun b j hj=>by rw [hT1 b j hj,hT1 i0 j hj]) rd (fun b=>by rw [hTm]) (fun b k hk=>by rw [hTm] at hk; exact c3 b k hk) ?_ (fun q hq=>by rw [fO i0 _ (Nat.le_refl _)]; exact c2 q hq) (fun j hj hjn => ?_) (fun b i j hij hjn hc => ?_) (fun b g a w hr => ?_) _ _ g a _ (Zs _ _) (by simp) ?_ (fun j o ho hj => ?_) ?_
 ·rcases Nat.lt_or_ge i os1.length with hl | hl
  ·rw [fW b i (by omega),fO b i (by omega),hT1 b i hl]
   exact a4 i o' (Nat.zero_le _) hl ho'
  ·obtain ⟨_,_,_,b4,_⟩:=hTl b
   exact b4 i o' (by omega) ho'
 ·rw [fW i0 _ (Nat.le_refl _)]
  have e1:(fun b=>(T b os1.length).s)=s:=by funext b; rw [hTm]
  have e2:(fun b=>(T b os1.length).wr)=wr:=by funext b; rw [hTm]
  rw [e1,e2]
  exact c1
 ·unfold aftB at haft
  have h1:=List.all_eq_true.1 haft j (List.mem_range.2 hjn)
  have h2:Nat.blt os1.length j=true:=by simpa [Nat.blt_eq] using hj
  rw [h2] at h1
  simpa using h1
 ·obtain ⟨lg,_,b3,_,b5,_⟩:=hTl b
  unfold Zf at b5
  rw [List.all_eq_true] at b5
  have h1:=b5 j (List.mem_range.2 hjn)
  rw [List.all_eq_true] at h1
  have h2:=h1 i (List.mem_range.2 hij)
  have e1:∀ q,q < ops.size→lg.reverse.getD q ([],[])=(keys (T b q).rd,keys (T b q).wr):=fun q hq=>by
   rw [List.getD_eq_getElem?_getD,b3 q hq]; rfl
  have e2:ww ops (fun i=>(lg.reverse.getD i ([],[])).1) (fun i=>(lg.reverse.getD i ([],[])).2) i j=ww ops (fun i=>keys (T b i).rd) (fun i=>keys (T b i).wr) i j:=by
   unfold ww
   simp only [e1 i (by omega),e1 j hjn]
  rw [e2,hc] at h2
  simpa using h2
 ·obtain ⟨_,_,_,_,_,b6⟩:=hTl b
  exact ⟨_,_,g,hr,b6⟩
 ·have:∀ n,n≤ops.size→cnt (fun i=>(Array.replicate ops.size false).getD i false) n=n:=by
   intro n
   induction n with
   | zero=>intro _; rfl
   | succ n ih =>
    intro hn
    have:(Array.replicate ops.size false).getD n false=false:=Zs _ _
    simp only [cnt,ih (by omega),this]; rfl
  exact this _ (Nat.le_refl _)
 ·have:(Array.replicate ops.size false).getD j false=false:=Zs _ _
  rw [this] at hj; cases hj
 ·have hz:∀ j,(fun i=>(Array.replicate ops.size false).getD i false) j=false:=fun j=>Zs _ _
  rw [z3l hz,z3l hz]
  exact hr.grow (Kp.refl [] w).drew
theorem y24 {ops:Array Oper} {K K':(Nat→Slot)→Own→List (List Nat×List Nat)→Prop}:∀ (os:List Oper) (f:Nat→Slot) (own:Own) (lg:List (List Nat×List Nat)),seqA P ops os f own lg K→(∀ f own lg,K f own lg→K' f own lg)→seqA P ops os f own lg K'
 | [],_,_,_,h,hk=>hk _ _ _ h
 | o::os,_,_,_,⟨T,h1,h2⟩,hk=>⟨T,h1,y24 os _ _ _ h2 hk⟩
end
end Go.Proofs.YtgdijjmdfcgifaaGreat
namespace Go.Proofs.YtgdijjmdfcgifaaGreat
open Go.RowKit Go.ChangeMaps Go.MapKept
set_option linter.unusedVariables false
def fxB (j id:Nat):Bool:=Nat.blt id 1000 && !(Nat.beq id j)
def okC5 (j:Nat) (own:Own):Cmp→Bool
 | .dat _=>true
 | .ptr id _=>qp own id && fxB j id
 | .row id _=>qp own id && fxB j id
 | .mp id=>qp own id && fxB j id
def okS5 (j:Nat) (own:Own):Slot→Bool
 | .any=>true
 | .dat _=>true
 | .ptr id _=>qp own id && fxB j id
 | .row id _=>qp own id && fxB j id
 | .rptr id _ _ _ _=>qp own id && fxB j id
 | .mp id=>qp own id && fxB j id
 | .rsub id _ _ _=>qp own id && fxB j id
 | .nptr id=>qp own id && fxB j id
 | .dr id _=>qp own id && fxB j id
 | .comp _ cs=>cs.all (okC5 j own)
def okO5 (j:Nat) (own:Own):AObj→Bool
 | .box _ _ cs=>cs.all (okS5 j own)
 | _=>true
def clS:Slot→Bool
 | .any=>true
 | .dat _=>true
 | _=>false
def clO:AObj→Bool
 | .box _ _ cs=>cs.all clS
 | _=>true
theorem w1i {j:Nat} {own:Own} {o:AObj} (h:clO o=true):okO5 j own o=true:=by
 cases o with
 | box an t cs =>
  refine List.all_eq_true.2 fun s hs => ?_
  have:=List.all_eq_true.1 h s hs
  cases s <;> first | rfl | cases this
 | row _ _ _=>rfl
 | opq _ _=>rfl
 | rowA _ _ _ _=>rfl
theorem w0q {j id:Nat} (h:fxB j id=true):id < 1000∧id≠j:=by
 unfold fxB at h
 rw [Bool.and_eq_true] at h
 refine ⟨by simpa [Nat.blt_eq] using h.1,fun e => ?_⟩
 have h2:=h.2
 rw [e] at h2
 simp at h2
theorem y6j {f:Nat→Slot} {p:Slot→Bool}:∀ (l:List (Nat×Slot)),subF f l→l.all (fun q=>p q.2)=true→∀ t,frs l t = .any∨(frs l t=f t∧p (frs l t)=true)
 | [],_,_,t => .inl rfl
 | (k,s)::l,h,ho,t=>by
  simp only [List.all_cons,Bool.and_eq_true] at ho
  unfold frs
  simp only [upl]
  by_cases hk:t=k
  ·subst hk
   have:Nat.beq t t=true:=by simp
   simp only [this,cond_true]
   exact .inr ⟨h.1,ho.1⟩
  ·simp only [qu hk,cond_false]
   exact y6j l h.2 ho.2 t
theorem Rel.renX {X:Ctx} {f:Nat→Slot} {own:Own} {g:Gh} {a:Act} {w:World} (h:Rel X f own g a w) (j:Nat) (σ:Nat→Nat) (lf:List (Nat×Slot)) (lo:List (Nat×AObj)) (hf:subF f lf) (ho:∀ p,p∈lo→own (σ p.1)=some (some p.2))
  (nd:(lo.map (·.1)).Nodup) (hinj:∀ i k,i∈lo.map (·.1)→k∈lo.map (·.1)→σ i=σ k→i=k) (hσ:∀ id,fxB j id=true→σ id=id) (hok1:lf.all (fun p=>okS5 j (ows lo) p.2)=true) (hok2:∀ p,p∈lo→okO5 j (ows lo) p.2=true) :
  ∃ g',Rel X (frs lf) (ows lo) g' a w∧∀ id o,ows lo id=some (some o)→∀ o',obk g' id o'=obk g (σ id) o':=by
 classical
 have hF:=y6j (p:=okS5 j (ows lo)) lf hf hok1
 have hin:∀ id o,ows lo id=some (some o)→id∈lo.map (·.1):=fun id o h1=>List.mem_map.2 ⟨(id,o),(qg nd).1 h1,rfl⟩
 have hlive:∀ id o,ows lo id=some (some o)→own (σ id)=some (some o)∧okO5 j (ows lo) o=true:=fun id o h1=>by
  have h2:=(qg nd).1 h1
  exact ⟨ho _ h2,hok2 _ h2⟩
 let g':Gh:=⟨fun id=>if ows lo id=none then none else g.bl (σ id),fun id n=>if ows lo id=none then none else g.sv (σ id) n⟩
 have gb:∀ id,ows lo id≠none→g'.bl id=g.bl (σ id):=fun id hn=>if_neg hn
 have gs:∀ id n,ows lo id≠none→g'.sv id n=g.sv (σ id) n:=fun id n hn=>if_neg hn
 have hne:∀ id o,ows lo id=some (some o)→ows lo id≠none:=fun id o h1=>by rw [h1]; simp
 have hobk:∀ id o o',ows lo id=some (some o')→obk g' id o=obk g (σ id) o:=fun id o o' h1=>by
  cases o with
  | box an t cs=>exact gb id (hne id o' h1)
  | row e size es=>simp only [obk,gs id _ (hne id o' h1)]
  | opq an R=>exact gb id (hne id o' h1)
  | rowA v e size es=>rfl
 have hM:∀ b,Mof X g' (ows lo) b→Mof X g own b:=fun b hb=>by
  rcases hb with hb | ⟨id,o,h1,h2⟩
  ·exact .inl hb
  ·rw [hobk id o o h1] at h2
   exact .inr ⟨σ id,o,(hlive id o h1).1,h2⟩
 have he:Ext (Mof X g own) (Mof X g' (ows lo)) w w:=⟨Nat.le_refl _,fun _ _ _ _=>rfl,fun b _ hb=>hM b hb⟩
 have nb:∀ id,(qp (ows lo) id && fxB j id)=true→g'.bl id=g.bl id:=fun id hs=>by
  rw [Bool.and_eq_true] at hs
  obtain ⟨o,ho⟩:=jy hs.1
  rw [gb id (hne id o ho),hσ id hs.2]
 have ns:∀ id n,(qp (ows lo) id && fxB j id)=true→g'.sv id n=g.sv id n:=fun id n hs=>by
  rw [Bool.and_eq_true] at hs
  obtain ⟨o,ho⟩:=jy hs.1
  rw [gs id n (hne id o ho),hσ id hs.2]
 have hS:∀ s v,okS5 j (ows lo) s=true→RepS g w (Mof X g own) s v→RepS g' w (Mof X g' (ows lo)) s v:=fun s v hs hv=>by
  cases s with
  | any=>trivial
  | dat u=>exact u.keep he hv
  | ptr id off=>obtain ⟨b,h1,h2⟩:=hv; exact ⟨b,by rw [nb id hs]; exact h1,h2⟩
  | row id n=>show g'.sv id n=some v; rw [ns id n hs]; exact hv
  | rptr id n size k c=>obtain ⟨b,cap,h1,h2⟩:=hv; exact ⟨b,cap,by rw [ns id n hs]; exact h1,h2⟩
  | mp id=>obtain ⟨b,h1,h2⟩:=hv; exact ⟨b,by rw [nb id hs]; exact h1,h2⟩
  | rsub id n size k=>obtain ⟨b,cap,h1,h2⟩:=hv; exact ⟨b,cap,by rw [ns id n hs]; exact h1,h2⟩
  | nptr id =>
   rcases hv with hv | ⟨b,h1,h2⟩
   ·exact .inl hv
   ·exact .inr ⟨b,by rw [nb id hs]; exact h1,h2⟩
  | dr id u=>obtain ⟨b,h1,h2⟩:=hv; exact ⟨b,by rw [nb id hs]; exact h1,(u b).keep he h2⟩
  | comp tup cs =>
   refine kq.mono hv fun c x hc hx => ?_
   have hs':okC5 j (ows lo) c=true:=(List.all_eq_true.1 hs) c hc
   cases c with
   | dat u=>exact u.keep he hx
   | ptr id off=>obtain ⟨b,h1,h2⟩:=hx; exact ⟨b,by rw [nb id hs']; exact h1,h2⟩
   | row id n=>show g'.sv id n=some x; rw [ns id n hs']; exact hx
   | mp id=>obtain ⟨b,h1,h2⟩:=hx; exact ⟨b,by rw [nb id hs']; exact h1,h2⟩
 refine ⟨g',⟨h.kp,h.m0,h.n,h.df,fun t => ?_,fun id o h1 => ?_,fun id id' o o' b h1 h2 h3 h4 => ?_,fun id o b h1 h2 => ?_,fun id h1=>⟨if_pos h1,fun n=>if_pos h1⟩,fun id e size es h1 k hk=>(gs id k (hne id _ h1)).trans (h.top (σ id) e size es (hlive id _ h1).1 k hk)⟩,fun id o h1 o'=>hobk id o' o h1⟩
 ·rcases hF t with h1 | ⟨h1,h2⟩
  ·rw [h1]; trivial
  ·refine hS _ _ h2 ?_
   rw [h1]; exact h.fr t
 ·obtain ⟨h2,h3⟩:=hlive id o h1
  have h4:=h.ob (σ id) o h2
  cases o with
  | box an t cs =>
   obtain ⟨b,l,q1,q0,q2,q3,q4⟩:=h4
   refine ⟨b,l,by rw [gb id (hne id _ h1)]; exact q1,q0,q2,q3,fun j s hs => ?_⟩
   obtain ⟨x,r1,r2,r3⟩:=q4 j s hs
   exact ⟨x,r1,hS _ _ ((List.all_eq_true.1 h3) s (List.mem_of_getElem? hs)) r2,r3⟩
  | row e size es =>
   obtain ⟨v,xs,q1,q2,q3,q4,q5⟩:=h4
   refine ⟨v,xs,by rw [gs id _ (hne id _ h1)]; exact q1,q2,q3,q4,fun k c el u hk hc => ?_⟩
   obtain ⟨x,r1,r2,r3⟩:=q5 k c el u hk hc
   exact ⟨x,r1,u.keep he r2,r3⟩
  | opq an R =>
   obtain ⟨b,o,q1,q0,q2,q3⟩:=h4
   exact ⟨b,o,by rw [gb id (hne id _ h1)]; exact q1,q0,q2,q3⟩
  | rowA v e size es =>
   obtain ⟨xs,q1,q2,q3,q4,q5⟩:=h4
   refine ⟨xs,by rw [gs id _ (hne id _ h1)]; exact q1,q2,q3,q4,fun k c el u hk hc => ?_⟩
   obtain ⟨x,r1,r2,r3⟩:=q5 k c el u hk hc
   exact ⟨x,r1,u.keep he r2,r3⟩
 ·rw [hobk id o o h1] at h3
  rw [hobk id' o' o' h2] at h4
  exact hinj _ _ (hin id o h1) (hin id' o' h2) (h.sep _ _ o o' b (hlive id o h1).1 (hlive id' o' h2).1 h3 h4)
 ·rw [hobk id o o h1] at h2
  exact h.mine _ o b (hlive id o h1).1 h2
structure Big (R:List (Nat×AObj)):Prop where
 nd:(R.map (·.1)).Nodup
 big:∀ p,p∈R→1000≤p.1
 cl:∀ p,p∈R→clO p.2=true
def jh (l:List (Nat×AObj)):Bool:=l.all (fun p=>Nat.blt p.1 1000) && ndB (l.map (·.1))
theorem z80 {l:List (Nat×AObj)} (h:jh l=true) {p:Nat×AObj} (hp:p∈l):p.1 < 1000:=by
 unfold jh at h
 rw [Bool.and_eq_true] at h
 simpa [Nat.blt_eq] using List.all_eq_true.1 h.1 p hp
theorem z5u {l:List (Nat×AObj)} (h:jh l=true):(l.map (·.1)).Nodup:=by
 unfold jh at h
 rw [Bool.and_eq_true] at h
 exact Zq h.2
theorem Zb {l R:List (Nat×AObj)} (h:jh l=true) (hR:Big R):((l++R).map (·.1)).Nodup:=by
 rw [List.map_append]
 refine List.nodup_append.2 ⟨z5u h,hR.nd,fun a ha b hb e => ?_⟩
 obtain ⟨p,hp,rfl⟩:=List.mem_map.1 ha
 obtain ⟨q,hq,rfl⟩:=List.mem_map.1 hb
 have:=z80 h hp
 have:=hR.big q hq
 omega
theorem x6i {l R:List (Nat×AObj)} (h:jh l=true) (hR:Big R) {p:Nat×AObj} (hp:p∈R):ows (l++R) p.1=some (some p.2):=(qg (Zb h hR)).2 (List.mem_append_right _ hp)
theorem x6h {l R:List (Nat×AObj)} (hR:Big R) {i:Nat} (hi:Nat.blt i 1000=true) (hl:(l.map (·.1)).contains i=false):ows (l++R) i=none:=by
 rw [jp,List.map_append,List.mem_append]
 rintro (h | h)
 ·rw [List.contains_iff_mem.2 h] at hl; cases hl
 ·obtain ⟨p,hp,rfl⟩:=List.mem_map.1 h
  have:=hR.big p hp
  have:p.1 < 1000:=by simpa [Nat.blt_eq] using hi
  omega
theorem ua {own:Own}:∀ {l:List (Nat×AObj)},subO own l↔∀ p,p∈l→own p.1=some (some p.2)
 | []=>⟨fun _ p hp=>by simp at hp,fun _=>trivial⟩
 | (i,o)::l=>by
  have ih:=ua (own:=own) (l:=l)
  refine ⟨fun h p hp => ?_,fun h=>⟨h (i,o) (by simp),ih.2 fun p hp=>h p (by simp [hp])⟩⟩
  rcases List.mem_cons.1 hp with rfl | hp
  ·exact h.1
  ·exact ih.1 h.2 p hp
theorem z0j {lf:List (Nat×Slot)} {l R:List (Nat×AObj)} (h:okL lf l=true) (hR:Big R):okL lf (l++R)=true:=by
 have hliv:∀ i,qp (ows l) i=true→qp (ows (l++R)) i=true:=by
  intro i h1
  obtain ⟨o,ho⟩:=jy h1
  have:∀ (l:List (Nat×AObj)),ows l i=some (some o)→ows (l++R) i=some (some o):=by
   intro l
   induction l with
   | nil=>intro h; cases h
   | cons p l ih =>
    intro h
    unfold ows at h ih ⊢
    simp only [List.cons_append,List.map_cons,upl] at h ⊢
    by_cases hk:i=p.1
    ·rw [hk] at h ⊢
     have e1:Nat.beq p.1 p.1=true:=by simp
     simp only [e1,cond_true] at h ⊢
     exact h
    ·simp only [qu hk,cond_false] at h ⊢
     exact ih h
  unfold qp
  rw [this l ho]
 have hC:∀ c,okC (ows l) c=true→okC (ows (l++R)) c=true:=fun c hc=>by
  cases c with
  | dat _=>rfl
  | ptr id _=>exact hliv _ hc
  | row id _=>exact hliv _ hc
  | mp id=>exact hliv _ hc
 have hS:∀ s,okS (ows l) s=true→okS (ows (l++R)) s=true:=fun s hs=>by
  cases s with
  | any=>rfl
  | dat _=>rfl
  | ptr id _=>exact hliv _ hs
  | row id _=>exact hliv _ hs
  | rptr id _ _ _ _=>exact hliv _ hs
  | mp id=>exact hliv _ hs
  | rsub id _ _ _=>exact hliv _ hs
  | nptr id=>exact hliv _ hs
  | dr id _=>exact hliv _ hs
  | comp tup cs=>exact List.all_eq_true.2 fun c hc=>hC c (List.all_eq_true.1 hs c hc)
 unfold okL at h ⊢
 rw [Bool.and_eq_true] at h ⊢
 refine ⟨List.all_eq_true.2 fun p hp=>hS _ (List.all_eq_true.1 h.1 p hp),List.all_eq_true.2 fun p hp => ?_⟩
 rcases List.mem_append.1 hp with hp | hp
 ·have h2:=List.all_eq_true.1 h.2 p hp
  obtain ⟨i,o⟩:=p
  cases o with
  | box an t cs=>exact List.all_eq_true.2 fun s hs=>hS s (List.all_eq_true.1 h2 s hs)
  | row _ _ _=>rfl
  | opq _ _=>rfl
  | rowA _ _ _ _=>rfl
 ·have h2:=hR.cl p hp
  obtain ⟨i,o⟩:=p
  cases o with
  | box an t cs =>
   refine List.all_eq_true.2 fun s hs => ?_
   have:=List.all_eq_true.1 h2 s hs
   cases s <;> first | rfl | cases this
  | row _ _ _=>rfl
  | opq _ _=>rfl
  | rowA _ _ _ _=>rfl
def okL5 (j:Nat) (lf:List (Nat×Slot)) (l:List (Nat×AObj)):Bool:=lf.all (fun p=>okS5 j (ows l) p.2) && l.all (fun p=>okO5 j (ows l) p.2)
theorem y8f {j:Nat} {lf:List (Nat×Slot)} {l R:List (Nat×AObj)} (h:okL5 j lf l=true) (hR:Big R):lf.all (fun p=>okS5 j (ows (l++R)) p.2)=true∧∀ p,p∈l++R→okO5 j (ows (l++R)) p.2=true:=by
 have hliv:∀ i,(qp (ows l) i && fxB j i)=true→(qp (ows (l++R)) i && fxB j i)=true:=by
  intro i h1
  rw [Bool.and_eq_true] at h1 ⊢
  refine ⟨?_,h1.2⟩
  obtain ⟨o,ho⟩:=jy h1.1
  have:∀ (l:List (Nat×AObj)),ows l i=some (some o)→ows (l++R) i=some (some o):=by
   intro l
   induction l with
   | nil=>intro h; cases h
   | cons p l ih =>
    intro h
    unfold ows at h ih ⊢
    simp only [List.cons_append,List.map_cons,upl] at h ⊢
    by_cases hk:i=p.1
    ·rw [hk] at h ⊢
     have e1:Nat.beq p.1 p.1=true:=by simp
     simp only [e1,cond_true] at h ⊢
     exact h
    ·simp only [qu hk,cond_false] at h ⊢
     exact ih h
  unfold qp
  rw [this l ho]
 have hC:∀ c,okC5 j (ows l) c=true→okC5 j (ows (l++R)) c=true:=fun c hc=>by
  cases c with
  | dat _=>rfl
  | ptr id _=>exact hliv _ hc
  | row id _=>exact hliv _ hc
  | mp id=>exact hliv _ hc
 have hS:∀ s,okS5 j (ows l) s=true→okS5 j (ows (l++R)) s=true:=fun s hs=>by
  cases s with
  | any=>rfl
  | dat _=>rfl
  | ptr id _=>exact hliv _ hs
  | row id _=>exact hliv _ hs
  | rptr id _ _ _ _=>exact hliv _ hs
  | mp id=>exact hliv _ hs
  | rsub id _ _ _=>exact hliv _ hs
  | nptr id=>exact hliv _ hs
  | dr id _=>exact hliv _ hs
  | comp tup cs=>exact List.all_eq_true.2 fun c hc=>hC c (List.all_eq_true.1 hs c hc)
 unfold okL5 at h
 rw [Bool.and_eq_true] at h
 refine ⟨List.all_eq_true.2 fun p hp=>hS _ (List.all_eq_true.1 h.1 p hp),fun p hp => ?_⟩
 rcases List.mem_append.1 hp with hp | hp
 ·have h2:=List.all_eq_true.1 h.2 p hp
  obtain ⟨i,o⟩:=p
  cases o with
  | box an t cs=>exact List.all_eq_true.2 fun s hs=>hS s (List.all_eq_true.1 h2 s hs)
  | row _ _ _=>rfl
  | opq _ _=>rfl
  | rowA _ _ _ _=>rfl
 ·exact w1i (hR.cl p hp)
section
variable {P:Program} {X:Ctx} {Q:Exit→(Nat→Slot)→Own→Prop} {f:Nat→Slot} {own:Own} {c:Code}
theorem w13 (t:Nat) (u:V) {l R:List (Nat×AObj)} (lf:List (Nat×Slot)) (hR:Big R) (hs:jh l=true) (hok:okL5 1000 lf l=true) (hf:subF f lf) (ho:subO own l) (hoR:∀ p,p∈R→own p.1=some (some p.2)) (ht:Nat.blt t X.N=true)
  (hu:∀ (g:Gh) (w:World) (M M':Blks) (v:Value),Ext M M' w w→(∀ p,p∈R→RepO g w M p.1 p.2∧∀ b,obk g p.1 p.2=some b→¬ M' b)→RepS g w M (f t) v→u.p w M' v)
  (h:AWP P X c Q (updS (frs lf) (some t) (.dat u)) (ows l)):AWP P X c Q f own:=by
 intro g a w hr
 have hB0:Big ([]:List (Nat×AObj)):=⟨List.nodup_nil,fun _ h=>by simp at h,fun _ h=>by simp at h⟩
 obtain ⟨k1,k2⟩:=y8f hok hB0
 rw [List.append_nil] at k1 k2
 obtain ⟨g',hr',hbk⟩:=hr.renX 1000 (fun i=>i) lf l hf (fun p hp=>ua.1 ho p hp) (z5u hs) (fun i k _ _ e=>e) (fun _ _=>rfl) k1 k2
 have hlive:∀ id o,ows l id=some (some o)→id < 1000∧own id=some (some o):=fun id o h1=>by
  have h2:=(qg (z5u hs)).1 h1
  exact ⟨z80 hs h2,ua.1 ho _ h2⟩
 have he:Ext (Mof X g own) (Mof X g' (ows l)) w w:=⟨Nat.le_refl _,fun _ _ _ _=>rfl,fun b _ hb=>by
  rcases hb with hb | ⟨id,o,h1,h2⟩
  ·exact .inl hb
  ·rw [hbk id o h1 o] at h2
   exact .inr ⟨id,o,(hlive id o h1).2,h2⟩⟩
 refine h g' a w ⟨hr'.kp,hr'.m0,hr'.n,hr'.df,fun t' => ?_,hr'.ob,hr'.sep,hr'.mine,hr'.fresh,hr'.top⟩
 by_cases htt:t'=t
 ·subst htt
  have:Nat.beq t' t'=true:=by simp
  simp only [updS,this,cond_true]
  refine hu g w _ _ _ he (fun p hp=>⟨hr.ob _ _ (hoR p hp),fun b hb hM => ?_⟩) (hr.fr t')
  rcases hM with hM | ⟨id,o,h1,h2⟩
  ·have h5:=hr.m0.1 b hM
   rcases hr.mine _ _ b (hoR p hp) hb with h6 | h6
   ·exact h5.2 h6
   ·omega
  ·rw [hbk id o h1 o] at h2
   obtain ⟨h3,h4⟩:=hlive id o h1
   have:=hr.sep id p.1 o p.2 b h4 (hoR p hp) h2 hb
   have:=hR.big p hp
   omega
 ·simp only [updS,qu htt,cond_false]
  exact hr'.fr t'
end
def fam (c:Nat):Nat→List AObj→List (Nat×AObj)
 | _,[]=>[]
 | n,o::l=>(4 * n+c+1000,o)::fam c (n+1) l
theorem z4t {c:Nat}:∀ {l:List AObj} {n:Nat} {p:Nat×AObj},p∈fam c n l↔∃ k o,l[k]?=some o∧p=(4 * (n+k)+c+1000,o)
 | [],n,p=>⟨fun h=>by simp [fam] at h,fun ⟨k,o,h,_⟩=>by simp at h⟩
 | o::l,n,p=>by
  rw [fam,List.mem_cons,z4t]
  constructor
  ·rintro (rfl | ⟨k,o',h,rfl⟩)
   ·exact ⟨0,o,rfl,rfl⟩
   ·exact ⟨k+1,o',by simpa using h,by rw [show n+1+k=n+(k+1) by omega]⟩
  ·rintro ⟨k,o',h,rfl⟩
   cases k with
   | zero=>simp at h; subst h; exact .inl rfl
   | succ k=>exact .inr ⟨k,o',by simpa using h,by rw [show n+1+k=n+(k+1) by omega]⟩
theorem z7r {c:Nat}:∀ {l:List AObj} {n:Nat},((fam c n l).map (·.1)).Nodup
 | [],n=>List.nodup_nil
 | o::l,n=>by
  rw [fam,List.map_cons,List.nodup_cons]
  refine ⟨fun h => ?_,z7r⟩
  obtain ⟨p,hp,e⟩:=List.mem_map.1 h
  obtain ⟨k,o',_,rfl⟩:=z4t.1 hp
  simp only at e
  omega
end Go.Proofs.YtgdijjmdfcgifaaGreat
namespace Go.Proofs.YtgdijjmdfcgifaaGreat
open Go.RowKit Go.ChangeMaps Go.MapKept
set_option linter.unusedVariables false
def FnI {ι:Type} (P:Program) (fn:Nat) (args:List V) (pre:List (Nat×AObj)) (res:ι→V) (post:ι→List (Nat×AObj)):Prop:=
 ki P fn=true∧∀ (X:Ctx) (g:Gh) (w:World) (vs:Array Value),X.w0=w→Mem X (ows pre) g w→vs.size=args.length →
  (∀ (j:Nat) (u:V),args[j]?=some u→∃ v,vs[j]?=some v∧u.p w (Mof X g (ows pre)) v) →
  Calls P fn vs w fun e w'=>∃ (y:ι) (v:Value) (g':Gh),e = .returned v∧Mem X (ows (post y)) g' w'∧(res y).p w' (Mof X g' (ows (post y))) v
theorem y09 {ι:Type} {P:Program} {fn:Nat} {fc:Func} {c:Code} {args:List V} {pre:List (Nat×AObj)} {post:ι→List (Nat×AObj)} {res:ι→V} {N:Nat} {rs:List ResultVar} (hok:ki P fn=true) (hf:P.funcs[fn]?=some fc) (hb:fc.body=some c) (hnt:fc.ntmps=N) (hrs:fc.results.toList=rs) (hn:Nat.ble args.length N=true)
  (h:∀ (X:Ctx),X.N=N→AWP P X c (fun e f own=>(match e with | .ret=>True | .normal=>True | _=>False)∧∃ (y:ι) (lf:List (Nat×Slot)),subF f lf∧subO own (post y)∧okL lf (post y)=true∧ResG P (frs lf) (ows (post y)) rs (.dat (res y))) (fun t=>(args.map Slot.dat).getD t .any) (ows pre)) :
  FnI P fn args pre res post:=by
 subst hnt hrs
 have hn:=Nat.le_of_ble_eq_true hn
 refine ⟨hok,fun X0 g w vs hw hm hvl hvs => ?_⟩
 obtain ⟨M0,w0,S0,N0,R0,D0⟩:=X0
 simp only at hw
 subst hw
 refine calls_of_wp hf hb (wp_mono (wpIn_wide.1 (h ⟨M0,w0,S0,fc.ntmps,none,[]⟩ rfl g _ w0 ?_)) ?_)
 ·refine ⟨hm.kp,hm.m0,by simp; omega,rfl,fun t => ?_,hm.ob,hm.sep,hm.mine,hm.fresh,hm.top⟩
  cases hs:args[t]? with
  | none =>
   have:(args.map Slot.dat).getD t .any = .any:=by rw [List.getD_eq_getElem?_getD,List.getElem?_map,hs]; rfl
   rw [this]; trivial
  | some u =>
   have e1:(args.map Slot.dat).getD t .any = .dat u:=by rw [List.getD_eq_getElem?_getD,List.getElem?_map,hs]; rfl
   rw [e1]
   obtain ⟨x,hx',hp⟩:=hvs t u hs
   have hlt:t < vs.size:=(Array.getElem?_eq_some_iff.1 hx').1
   have e2:(vs++Array.replicate (fc.ntmps - vs.size) undef).getD t undef=x:=by
    rw [Array.getD_eq_getD_getElem?,Array.getElem?_append_left hlt,hx']; rfl
   show RepS g w0 _ (.dat u) ((vs++Array.replicate (fc.ntmps - vs.size) undef).getD t undef)
   rw [e2]
   exact hp
 ·rintro e a' w' ⟨f',own',g',hr,he,y,lf,hs1,hs2,hok2,hres⟩
  obtain ⟨g'',hr2⟩:=hr.less lf (post y) hs1 hs2 hok2
  obtain ⟨v,hv1,hv2⟩:=y7c (P:=P) hr2 fc (.dat (res y)) hres
  have hfin:a'.defers=[]∧∃ v,(results fc a'.tmps).run P w' = .ok v w'∧∃ (y:ι) (v_1:Value) (g':Gh),Ending.returned v = .returned v_1∧Mem ⟨M0,w0,S0,N0,R0,D0⟩ (ows (post y)) g' w'∧(res y).p w' (Mof ⟨M0,w0,S0,N0,R0,D0⟩ g' (ows (post y))) v_1:=
   ⟨hr2.df,v,hv1,y,v,g'',rfl,⟨hr2.kp,hr2.m0,hr2.ob,hr2.sep,hr2.mine,hr2.fresh,hr2.top⟩,hv2⟩
  cases e with
  | normal=>exact hfin
  | ret=>exact hfin
  | exit _=>exact he.elim
  | goto _=>exact he.elim
  | panic _=>exact he.elim
  | outgrown=>exact he.elim
theorem z9o {own:Own} {s:Slot} (h:clS s=true):okS own s=true:=by
 cases s <;> simp [clS] at h <;> rfl
theorem y8e {lf:List (Nat×Slot)} {l:List (Nat×AObj)} (h:lf.all (fun p=>clS p.2)=true) (h2:∀ p,p∈l→clO p.2=true):okL lf l=true:=by
 unfold okL
 rw [Bool.and_eq_true]
 refine ⟨List.all_eq_true.2 fun p hp=>z9o (List.all_eq_true.1 h p hp),List.all_eq_true.2 fun p hp => ?_⟩
 have h3:=h2 p hp
 cases ho:p.2 with
 | box an t cs =>
  rw [ho] at h3
  exact List.all_eq_true.2 fun s hs=>z9o (List.all_eq_true.1 h3 s hs)
 | row _ _ _=>rfl
 | opq _ _=>rfl
 | rowA _ _ _ _=>rfl
section
variable {P:Program} {X:Ctx} {dst:Option Tmp} {ty:TypeId} {pos:String} {af:Array Edge} {gd:Option (Nat×Bool)}
variable {Q:Exit→(Nat→Slot)→Own→Prop} {f:Nat→Slot} {own:Own}
end
end Go.Proofs.YtgdijjmdfcgifaaGreat
