/- The abstract machine: a region of which one operation has more than one outcome, in whatever order. -/
import Derived.Test.YtnnfdgngnoamoaaGreatDoorRng
import Derived.Test.YtnnfdgngnoamoaaGreatDoorMr
import Derived.Test.YtnnfdgngnoamoaaGreatDoorCch
import Derived.Test.YtnnfdgngnoamoaaGreatDoorMp
namespace Go.Proofs.YtnnfdgngnoamoaaGreatDoor
open Go.RowKit
set_option linter.unusedVariables false
section
variable {P:Program} {ops:Array Oper} {X:Ctx} {Q:Exit→Act→World→Prop}
theorem x1u (m:Nat) (Inv:Array Bool→Prop) (T:Nat→Tr) (f:Nat→Slot) (own:Own) (hE:Wn ops=true) (hN:kk X.N ops=true)
  (hinv:∀ (listed:Array Bool) i,i≠m→Inv listed→Inv (listed.setIfInBounds i true))
  (hsubm:∀ k,k∈keys (T m).wr→k∈keys (T m).rd)
  (hT:∀ i o,i≠m→ops[i]?=some o→z1h P ops o (memD (Wf ops T) (fun _=>true) f i) (memD (Wo T) (fun _=>true) own i) (T i))
  (hC:∀ i j,i < j→j < ops.size→vy ops (fun i=>keys (T i).rd) (fun i=>keys (T i).wr) i j=true→i∈jz ops ops.size j)
  (hQ:∀ listed,Inv listed→(∀ i,i < ops.size→listed.getD i false=true)→∀ g a w,Rel X (memD (Wf ops T) (fun _=>true) f ops.size) (memD (Wo T) (fun _=>true) own ops.size) g a w→Q .normal a w)
  (hcb:∀ (fuel:Nat) (listed:Array Bool) (g:Gh) (a:Act) (w:World),Inv listed→listed.size=ops.size→cnt (fun i=>listed.getD i false) ops.size=fuel+1 →
   (∀ j o,ops[j]?=some o→listed.getD j false=true→∀ e∈o.after,Region.binds .any e=true→listed.getD e.on false=true)→m < ops.size→listed.getD m false=false →
   (∀ o,ops[m]?=some o→∀ e∈o.after,Region.binds .any e=true→listed.getD e.on false=true)→(∀ j,m∈jz ops ops.size j→listed.getD j false=false) →
   (∀ t,t∈looks ops m→memD (Wf ops T) (fun i=>listed.getD i false) f ops.size t=memD (Wf ops T) (fun _=>true) f m t) →
   (∀ q,q∈keys (T m).rd→memD (Wo T) (fun i=>listed.getD i false) own ops.size q=memD (Wo T) (fun _=>true) own m q) →
   Rel X (memD (Wf ops T) (fun i=>listed.getD i false) f ops.size) (memD (Wo T) (fun i=>listed.getD i false) own ops.size) g a w →
   wpOpIn (FR X.R) 0 P ops Q m (wpAnyIn (FR X.R) 0 P .any ops Q fuel (listed.setIfInBounds m true)) a w) :
  ∀ (fuel:Nat) (listed:Array Bool) (g:Gh) (a:Act) (w:World),Inv listed→listed.size=ops.size→cnt (fun i=>listed.getD i false) ops.size=fuel →
   (∀ j o,ops[j]?=some o→listed.getD j false=true→∀ e∈o.after,Region.binds .any e=true→listed.getD e.on false=true) →
   Rel X (memD (Wf ops T) (fun i=>listed.getD i false) f ops.size) (memD (Wo T) (fun i=>listed.getD i false) own ops.size) g a w→wpAnyIn (FR X.R) 0 P .any ops Q fuel listed a w:=by
 have hget:∀ (listed:Array Bool) i,listed.size=ops.size→i < ops.size→listed.getD i true=listed.getD i false:=by
  intro listed i hs hi
  rw [Array.getD_eq_getD_getElem?,Array.getD_eq_getD_getElem?,Array.getElem?_eq_getElem (by omega)]
  rfl
 intro fuel
 induction fuel with
 | zero =>
  intro listed g a w hI hs hc hd hr
  have hall:=x4t hc
  refine ⟨?_,?_⟩
  ·refine List.eq_nil_iff_forall_not_mem.2 fun i hi => ?_
   obtain ⟨h1,o,ho,_⟩:=mem_ready.1 hi
   have hlt:i < ops.size:=(Array.getElem?_eq_some_iff.1 ho).1
   rw [hget listed i hs hlt,hall i hlt] at h1
   cases h1
  ·rw [y2c hall,y2c hall] at hr
   exact hQ listed hI hall g a w hr
 | succ fuel ih =>
  intro listed g a w hI hs hc hd hr
  refine ⟨fun hnil => ?_,fun i hi => ?_⟩
  ·exfalso
   by_cases hex:∃ i,i < ops.size∧listed.getD i false=false
   ·obtain ⟨i,h1,h2⟩:=hex
    obtain ⟨m,h3,h4,h5⟩:=x3a (D:=fun i=>listed.getD i false) ops.size i h1 h2
    have hm:m∈Region.ready .any ops listed:=by
     refine mem_ready.2 ⟨by rw [hget listed m hs h3]; exact h4,ops[m],Array.getElem?_eq_getElem h3,fun e he hb => ?_⟩
     unfold Wn at hE
     rw [List.all_eq_true] at hE
     have h6:=hE m (List.mem_range.2 h3)
     rw [Array.getElem?_eq_getElem h3] at h6
     rw [List.all_eq_true] at h6
     have h7:=h6 e (Array.mem_toList_iff.2 he)
     rw [hb] at h7
     have h8:e.on < m:=by simpa [Nat.blt_eq] using h7
     exact h5 e.on h8
    rw [hnil] at hm
    cases hm
   ·have hz:∀ i,i < ops.size→listed.getD i false=true:=fun i hi=>by
     cases h:listed.getD i false
     ·exact absurd ⟨i,hi,h⟩ hex
     ·rfl
    have:∀ n,n≤ops.size→cnt (fun i=>listed.getD i false) n=0:=by
     intro n
     induction n with
     | zero=>intro _; rfl
     | succ n ihn=>intro hn; simp only [cnt,ihn (by omega),hz n (by omega)]; rfl
    rw [this ops.size (Nat.le_refl _)] at hc
    omega
  ·obtain ⟨h1,o,ho,hall⟩:=mem_ready.1 hi
   have hlt:i < ops.size:=(Array.getElem?_eq_some_iff.1 ho).1
   rw [hget listed i hs hlt] at h1
   -- who is ahead of i is done; who is behind is not
   have hfore:∀ j,i∈jz ops ops.size j→listed.getD j false=false:=fun j hj=>by
    cases h:listed.getD j false
    ·rfl
    ·have:=y4j (D:=fun i=>listed.getD i false) hd ops.size j i hj h
     simp only [h1] at this
     cases this
   have hback:∀ j,j∈jz ops ops.size i→listed.getD j false=true:=by
    intro j hj
    have hD2:∀ j' o',ops[j']?=some o'→(fun x=>listed.getD x false || decide (x=i)) j'=true→∀ e∈o'.after,Region.binds .any e=true→(fun x=>listed.getD x false || decide (x=i)) e.on=true:=by
     intro j' o' ho' hj' e he hb
     by_cases hji:j'=i
     ·subst hji
      rw [ho] at ho'
      cases ho'
      simp only [hall e he hb,Bool.true_or]
     ·have:listed.getD j' false=true:=by simpa [hji] using hj'
      simp only [hd j' o' ho' this e he hb,Bool.true_or]
    have h2:=y4j hD2 ops.size i j hj (by simp)
    by_cases hji:j=i
    ·subst hji
     have:=hfore j hj
     exfalso
     have hlt2:∀ n q,q∈jz ops n j→q < j:=by
      have hE':=hE
      unfold Wn at hE'
      rw [List.all_eq_true] at hE'
      have key:∀ n m q,m < ops.size→q∈jz ops n m→q < m:=by
       intro n
       induction n with
       | zero=>intro m q _ h; cases h
       | succ n ihn =>
        intro m q hm h
        unfold jz at h
        rw [Array.getElem?_eq_getElem hm] at h
        simp only [List.mem_flatMap,Array.mem_toList_iff] at h
        obtain ⟨e,he,hq⟩:=h
        by_cases hb:Region.binds .any e=true
        ·rw [if_pos hb] at hq
         have h6:=hE' m (List.mem_range.2 hm)
         rw [Array.getElem?_eq_getElem hm] at h6
         rw [List.all_eq_true] at h6
         have h7:=h6 e (Array.mem_toList_iff.2 he)
         rw [hb] at h7
         have h8:e.on < m:=by simpa [Nat.blt_eq] using h7
         rcases List.mem_cons.1 hq with rfl | hq
         ·exact h8
         ·have:=ihn e.on q (by omega) hq
          omega
        ·rw [if_neg hb] at hq; cases hq
      exact fun n q hq=>key n j q hlt hq
     have:=hlt2 _ _ hj
     omega
    ·simpa [hji] using h2
   have hcl1:∀ j,j < i→vy ops (fun i=>keys (T i).rd) (fun i=>keys (T i).wr) j i=true→listed.getD j false=true:=fun j hj hc=>hback j (hC j i hj hlt hc)
   have hcl2:∀ j,i < j→j < ops.size→vy ops (fun i=>keys (T i).rd) (fun i=>keys (T i).wr) i j=true→listed.getD j false=false:=fun j hj hjn hc=>hfore j (hC i j hj hjn hc)
   have hself:∀ j,i≤j→j < ops.size→vy ops (fun i=>keys (T i).rd) (fun i=>keys (T i).wr) i j=true→listed.getD j false=false:=fun j hj hjn hc=>by
    rcases Nat.lt_or_ge i j with h | h
    ·exact hcl2 j h hjn hc
    ·obtain rfl:i=j:=by omega
     exact h1
   have hkf:∀ j d,d∈keys (Wf ops T j)→d∈z07 ops j:=by
    intro j d hd
    unfold Wf at hd
    unfold z07
    cases hq:(ops[j]?).bind (·.dst) with
    | none=>rw [hq] at hd; cases hd
    | some d'=>rw [hq] at hd; simpa [keys] using hd
   have hlooks:looks ops i=o.looksAt ops:=by simp [looks,ho]
   have hf:∀ t,t∈looks ops i→memD (Wf ops T) (fun i=>listed.getD i false) f ops.size t=memD (Wf ops T) (fun _=>true) f i t:=fun t ht =>
    y2d (Nat.le_of_lt hlt)
     (fun j hj hk=>hcl1 j hj (by unfold vy; rw [Zn (hkf j t hk) ht]; simp))
     (fun j hj hjn hk=>hself j hj hjn (by unfold vy; rw [Zn (hkf j t hk) ht]; simp))
   have ho':∀ q,q∈keys (T i).rd→memD (Wo T) (fun i=>listed.getD i false) own ops.size q=memD (Wo T) (fun _=>true) own i q:=fun q hq =>
    y2d (Nat.le_of_lt hlt)
     (fun j hj hk=>hcl1 j hj (by unfold vy; rw [Zn (a:=keys (T j).wr) hk hq]; simp))
     (fun j hj hjn hk=>hself j hj hjn (by unfold vy; rw [Zn (b:=keys (T j).wr) hq hk]; simp))
   by_cases him:i=m
   ·subst him
    exact hcb fuel listed g a w hI hs hc hd hlt h1 (fun o' ho2=>by rw [ho] at ho2; cases ho2; exact hall) hfore hf ho' hr
   obtain ⟨hgd,hrun,hskip,hsub⟩:=hT i o him ho
   -- the next state
   have hset:∀ j,(listed.setIfInBounds i true).getD j false=(listed.getD j false || decide (j=i)):=by
    intro j
    rw [Array.getD_eq_getD_getElem?,Array.getD_eq_getD_getElem?,Array.getElem?_setIfInBounds]
    by_cases hj:i=j
    ·subst hj; simp [hs,hlt]
    ·rw [if_neg hj]; simp [Ne.symm hj]
   have hmf:memD (Wf ops T) (fun j=>(listed.setIfInBounds i true).getD j false) f ops.size=updS (memD (Wf ops T) (fun i=>listed.getD i false) f ops.size) o.dst (T i).s:=by
    rw [z4g hlt h1 hset,z3l]
    ·unfold Wf; rw [ho]; rfl
    ·intro j hj hjn hDj k hk1 hk2
     have:=hcl2 j hj hjn (by unfold vy; rw [Zn (hkf i k hk1) (hkf j k hk2)]; simp)
     rw [this] at hDj; cases hDj
   have hmo:memD (Wo T) (fun j=>(listed.setIfInBounds i true).getD j false) own ops.size=upl (memD (Wo T) (fun i=>listed.getD i false) own ops.size) (T i).wr:=by
    rw [z4g hlt h1 hset]
    ·rfl
    ·intro j hj hjn hDj k hk1 hk2
     have hjo:∃ oj,ops[j]?=some oj:=⟨ops[j],Array.getElem?_eq_getElem hjn⟩
     obtain ⟨oj,hoj⟩:=hjo
     have:=hcl2 j hj hjn (by unfold vy; rw [Zn (a:=keys (T i).wr) hk1 ((show ∀ k,k∈keys (T j).wr→k∈keys (T j).rd from by
      by_cases hjm:j=m
      ·rw [hjm]; exact hsubm
      ·exact (hT j oj hjm hoj).2.2.2) k hk2)]; simp)
     rw [this] at hDj; cases hDj
   have hnext:∀ g' v w',Rel X (updS (memD (Wf ops T) (fun i=>listed.getD i false) f ops.size) o.dst (T i).s) (upl (memD (Wo T) (fun i=>listed.getD i false) own ops.size) (T i).wr) g' (a.put o.dst v) w' →
     wpAnyIn (FR X.R) 0 P .any ops Q fuel (listed.setIfInBounds i true) (a.put o.dst v) w':=by
    intro g' v w' hr'
    refine ih _ g' _ w' (hinv _ _ him hI) (by simpa using hs) ?_ ?_ ?_
    ·have:=y8y (D:=fun i=>listed.getD i false) hlt h1 hset
     omega
    ·intro j o' ho'' hj e he hb
     rw [hset] at hj ⊢
     by_cases hji:j=i
     ·subst hji
      rw [ho] at ho''
      cases ho''
      rw [hall e he hb]; rfl
     ·have:listed.getD j false=true:=by simpa [hji] using hj
      rw [hd j o' ho'' this e he hb]; rfl
    ·rw [hmf,hmo]; exact hr'
   obtain ⟨hdN,hdf⟩:=Qu hN ho
   unfold wpOpIn
   rw [ho]
   have hw:Region.wanted o (yielded ops a.tmps) = !(T i).skip:=by
    refine z3j hr ?_
    cases hgo:o.guard with
    | none=>rw [hgo] at hgd; exact hgd
    | some q =>
     obtain ⟨j,want⟩:=q
     rw [hgo] at hgd
     obtain ⟨d,v,g1,g2,g3⟩:=hgd
     refine ⟨d,v,g1,?_,g3⟩
     rw [hf d (by rw [hlooks]; unfold Oper.looksAt; rw [hgo]; simp [g1])]
     exact g2
   cases hsk:(T i).skip with
   | false =>
    rw [hsk] at hw
    simp only [hw,Bool.not_false,if_true]
    obtain ⟨hst,hrd⟩:=hrun hsk
    refine Qh hdf (hst X _ _ g a w Q hr hdN (fun x hx => ?_) (fun q hq => ?_) _ hnext)
    ·cases x with
     | tmp t=>exact hf t (by rw [hlooks]; unfold Oper.looksAt; rw [List.mem_append]; exact .inl (List.mem_filterMap.2 ⟨_,by simpa using hx,rfl⟩))
     | _=>rfl
    ·rw [ho' q.1 (List.mem_map.2 ⟨q,hq,rfl⟩)]
     exact hrd q hq
   | true =>
    rw [hsk] at hw
    simp only [hw,Bool.not_true,Bool.false_eq_true,if_false]
    obtain ⟨e1,e2,e3⟩:=hskip hsk
    refine ⟨fun _ _=>trivial,hnext g undef w ?_⟩
    rw [e1,e3]
    exact hr.put o.dst (.dat (vval undef)) undef hdN rfl

theorem x9d {tl:List Oper}:∀ (os:List Oper) (i:Nat) (T:Nat→Tr) (f:Nat→Slot) (own:Own) (lg:List (List Nat×List Nat)) (K:(Nat→Slot)→Own→List (List Nat×List Nat)→Prop),
  ops.toList.drop i=os++tl→i≤ops.size→lg.length=i→(∀ j,j < i→lg.reverse[j]?=some (keys (T j).rd,keys (T j).wr)) →
  seqA P ops os (memD (Wf ops T) (fun _=>true) f i) (memD (Wo T) (fun _=>true) own i) lg K →
  ∃ (T':Nat→Tr) (lg':List (List Nat×List Nat)),(∀ j,j < i→T' j=T j)∧lg'.length=i+os.length∧(∀ j,j < i+os.length→lg'.reverse[j]?=some (keys (T' j).rd,keys (T' j).wr)) ∧
   (∀ j o,i≤j→j < i+os.length→ops[j]?=some o→z1h P ops o (memD (Wf ops T') (fun _=>true) f j) (memD (Wo T') (fun _=>true) own j) (T' j)) ∧
   K (memD (Wf ops T') (fun _=>true) f (i+os.length)) (memD (Wo T') (fun _=>true) own (i+os.length)) lg':=by
 intro os
 induction os with
 | nil =>
  intro i T f own lg K hos hi hl hlg h
  exact ⟨T,lg,fun _ _=>rfl,hl,hlg,fun j o hj hj2 ho=>by simp at hj2; omega,h⟩
 | cons o os ih =>
  intro i T f own lg K hos hi hl hlg h
  have hlt:i < ops.size:=by
   have h2:=congrArg List.length hos
   simp only [List.length_drop,List.length_append,List.length_cons,Array.length_toList] at h2
   omega
  have hoi:ops[i]?=some o:=by
   have h2:=List.drop_eq_getElem_cons (l:=ops.toList) (i:=i) (by simpa using hlt)
   rw [hos] at h2
   injection h2 with h3 h4
   rw [Array.getElem?_eq_getElem hlt]
   exact congrArg some h3.symm
  have hos':ops.toList.drop (i+1)=os++tl:=by
   have h2:=List.drop_eq_getElem_cons (l:=ops.toList) (i:=i) (by simpa using hlt)
   rw [hos] at h2
   injection h2 with h3 h4
   exact h4.symm
  obtain ⟨t,h1,h2⟩:=h
  let T1:Nat→Tr:=fun j=>if j=i then t else T j
  have hT1:∀ j,j < i→T1 j=T j:=fun j hj=>if_neg (by omega)
  have hT1i:T1 i=t:=if_pos rfl
  have hmF:∀ m,m≤i→memD (Wf ops T1) (fun _=>true) f m=memD (Wf ops T) (fun _=>true) f m:=by
   intro m
   induction m with
   | zero=>intro _; rfl
   | succ m ihm =>
    intro hm
    have:Wf ops T1 m=Wf ops T m:=by unfold Wf; rw [hT1 m (by omega)]
    simp only [memD,if_true,ihm (by omega),this]
  have hmO:∀ m,m≤i→memD (Wo T1) (fun _=>true) own m=memD (Wo T) (fun _=>true) own m:=by
   intro m
   induction m with
   | zero=>intro _; rfl
   | succ m ihm =>
    intro hm
    have:Wo T1 m=Wo T m:=by unfold Wo; rw [hT1 m (by omega)]
    simp only [memD,if_true,ihm (by omega),this]
  have eF:memD (Wf ops T1) (fun _=>true) f (i+1)=updS (memD (Wf ops T) (fun _=>true) f i) o.dst t.s:=by
   simp only [memD,if_true,hmF i (Nat.le_refl _),z3l]
   unfold Wf; rw [hoi,hT1i]; rfl
  have eO:memD (Wo T1) (fun _=>true) own (i+1)=upl (memD (Wo T) (fun _=>true) own i) t.wr:=by
   simp only [memD,if_true,hmO i (Nat.le_refl _)]
   unfold Wo; rw [hT1i]
  rw [← eF,← eO] at h2
  obtain ⟨T',lg',a1,a2,a3,a4,a5⟩:=ih (i+1) T1 f own _ K hos' hlt (by simp [hl]) (fun j hj=>by
   rw [List.reverse_cons]
   rcases Nat.lt_or_ge j i with hl' | hl'
   ·rw [List.getElem?_append_left (by simp; omega),hlg j hl',hT1 j hl']
   ·obtain rfl:j=i:=by omega
    rw [List.getElem?_append_right (by simp [hl]),hT1i]; simp [hl]) h2
  have hn:i+1+os.length=i+(o::os).length:=by simp only [List.length_cons]; omega
  rw [hn] at a2 a3 a4 a5
  refine ⟨T',lg',fun j hj=>(a1 j (by omega)).trans (hT1 j hj),a2,a3,fun j o' hj hj2 ho' => ?_,a5⟩
  rcases Nat.lt_or_ge i j with hl' | hl'
  ·exact a4 j o' hl' hj2 ho'
  ·obtain rfl:j=i:=by omega
   rw [hoi] at ho'
   cases ho'
   have e1:T' j=t:=(a1 j (by omega)).trans hT1i
   have eF':memD (Wf ops T') (fun _=>true) f j=memD (Wf ops T) (fun _=>true) f j:=by
    have:∀ m,m≤j→memD (Wf ops T') (fun _=>true) f m=memD (Wf ops T) (fun _=>true) f m:=by
     intro m
     induction m with
     | zero=>intro _; rfl
     | succ m ihm =>
      intro hm
      have:Wf ops T' m=Wf ops T m:=by unfold Wf; rw [a1 m (by omega),hT1 m (by omega)]
      simp only [memD,if_true,ihm (by omega),this]
    exact this j (Nat.le_refl _)
   have eO':memD (Wo T') (fun _=>true) own j=memD (Wo T) (fun _=>true) own j:=by
    have:∀ m,m≤j→memD (Wo T') (fun _=>true) own m=memD (Wo T) (fun _=>true) own m:=by
     intro m
     induction m with
     | zero=>intro _; rfl
     | succ m ihm =>
      intro hm
      have:Wo T' m=Wo T m:=by unfold Wo; rw [a1 m (by omega),hT1 m (by omega)]
      simp only [memD,if_true,ihm (by omega),this]
    exact this j (Nat.le_refl _)
   rw [e1,eF',eO']
   exact h1
theorem z19 {β:Type} {W W':Nat→List (Nat×β)} {D:Nat→Bool} {f:Nat→β}:∀ (n:Nat),(∀ j,j < n→D j=true→W j=W' j)→memD W D f n=memD W' D f n
 | 0,_=>rfl
 | n+1,h=>by
  have ih:=z19 (f:=f) n fun j hj=>h j (by omega)
  simp only [memD,ih]
  cases hD:D n with
  | false=>rfl
  | true=>simp only [if_true,h n (by omega) hD]
def StpI {ι:Type} (P:Program) (o:Oper) (f:Nat→Slot) (rd:List (Nat×Option (Option AObj))) (s:ι→Slot) (wr:ι→List (Nat×Option (Option AObj))):Prop:=
 ∀ (X:Ctx) (f':Nat→Slot) (own:Own) (g:Gh) (a:Act) (w:World) (Q:Exit→Act→World→Prop),Rel X f' own g a w→(∀ d,o.dst=some d→d < X.N) →
  (∀ x,x∈o.op.operands→evS f' x=evS f x)→(∀ q,q∈rd→own q.1=q.2) →
  ∀ K:Act→World→Prop,(∀ b g' v w',Rel X (updS f' o.dst (s b)) (upl own (wr b)) g' (a.put o.dst v) w'→K (a.put o.dst v) w')→o.wp P a w K Q
theorem x07 {o:Oper} {f:Nat→Slot} {id:Nat} {t:TypeId} {cs:List Slot} (h:Stp P o f ⟨false,[(id,none)],[(id,some (some (.box none t cs)))],.ptr id 0⟩) :
  StpI P o f [(id,none)] (fun b:Nat => .dat (vval (PB b))) (fun b=>[(id,some (some (.box (some b) t cs)))]):=by
 intro X f' own g a w Q hr hd hx hrd K hK
 refine h X f' own g a w Q hr hd hx hrd K fun g' v w' hR => ?_
 have ho:upl own [(id,some (some (.box none t cs)))] id=some (some (.box none t cs)):=vm
 obtain ⟨b,l,q1,q0,q2⟩:=hR.ob id _ ho
 refine hK b g' v w' ?_
 refine hR.view (id:=id) (an2:=some b) ho ?_ (fun q hq b' hb'=>by cases hq; rw [q1] at hb'; exact Option.some.inj hb') fun k v hv => ?_
 ·funext i
  by_cases hi:i=id
  ·subst hi; rw [vm,vm]
  ·rw [va hi,va hi,va hi]
 ·refine x6i (fun v hv => ?_) k v hv
  obtain ⟨b',h1,h2⟩:=hv
  rw [q1] at h1; cases h1
  exact h2
theorem x90 {ι:Type} (i0:ι) (m:Nat) (T:ι→Nat→Tr) (f:Nat→Slot) (own:Own) (o:Oper) (hom:ops[m]?=some o) (hg:o.guard=none) (hE:Wn ops=true) (hN:kk X.N ops=true)
  (hT:∀ b i o,i≠m→ops[i]?=some o→z1h P ops o (memD (Wf ops (T b)) (fun _=>true) f i) (memD (Wo (T b)) (fun _=>true) own i) (T b i))
  (hlow:∀ b j,j < m→T b j=T i0 j)
  (rd:List (Nat×Option (Option AObj))) (hrd:∀ b,(T b m).rd=rd) (hsub:∀ b k,k∈keys (T b m).wr→k∈keys rd)
  (hM:StpI P o (memD (Wf ops (T i0)) (fun _=>true) f m) rd (fun b=>(T b m).s) (fun b=>(T b m).wr)) (hMr:∀ q,q∈rd→memD (Wo (T i0)) (fun _=>true) own m q.1=q.2)
  (haft:∀ j,m < j→j < ops.size→m∈jz ops ops.size j)
  (hC:∀ b i j,i < j→j < ops.size→vy ops (fun i=>keys (T b i).rd) (fun i=>keys (T b i).wr) i j=true→i∈jz ops ops.size j)
  (hQ:∀ b g a w,Rel X (memD (Wf ops (T b)) (fun _=>true) f ops.size) (memD (Wo (T b)) (fun _=>true) own ops.size) g a w→Q .normal a w) :
  ∀ (fuel:Nat) (listed:Array Bool) (g:Gh) (a:Act) (w:World),listed.getD m false=false→listed.size=ops.size→cnt (fun i=>listed.getD i false) ops.size=fuel →
   (∀ j o,ops[j]?=some o→listed.getD j false=true→∀ e∈o.after,Region.binds .any e=true→listed.getD e.on false=true) →
   Rel X (memD (Wf ops (T i0)) (fun i=>listed.getD i false) f ops.size) (memD (Wo (T i0)) (fun i=>listed.getD i false) own ops.size) g a w→wpAnyIn (FR X.R) 0 P .any ops Q fuel listed a w:=by
 have hml:m < ops.size:=(Array.getElem?_eq_some_iff.1 hom).1
 have hset:∀ (listed:Array Bool),listed.size=ops.size→∀ i,i < ops.size→∀ j,(listed.setIfInBounds i true).getD j false=(listed.getD j false || decide (j=i)):=by
  intro listed hs i hi j
  rw [Array.getD_eq_getD_getElem?,Array.getD_eq_getD_getElem?,Array.getElem?_setIfInBounds]
  by_cases hj:i=j
  ·subst hj; simp [hs,hi]
  ·rw [if_neg hj]; simp [Ne.symm hj]
 have hset2:∀ (listed:Array Bool) i j,i≠j→(listed.setIfInBounds i true).getD j false=listed.getD j false:=by
  intro listed i j hij
  rw [Array.getD_eq_getD_getElem?,Array.getD_eq_getD_getElem?,Array.getElem?_setIfInBounds,if_neg hij]
 refine x1u (P:=P) (X:=X) (Q:=Q) m (fun listed=>listed.getD m false=false) (T i0) f own hE hN (fun listed i hi hI=>by rw [hset2 _ _ _ hi]; exact hI) (fun k hk=>by rw [hrd]; exact hsub i0 k hk) (hT i0) (hC i0) (fun listed hI hall=>by
  have:=hall m hml
  rw [hI] at this; cases this) ?_
 intro fuel listed g a w hI hs hc hd _ h1 hall hfore hf ho' hr
 have hno:∀ j,m≤j→j < ops.size→listed.getD j false=false:=fun j hj hjn=>by
  rcases Nat.lt_or_ge m j with h | h
  ·exact hfore j (haft j h hjn)
  ·obtain rfl:m=j:=by omega
   exact h1
 obtain ⟨hdN,hdf⟩:=Qu hN hom
 unfold wpOpIn
 rw [hom]
 have hw:Region.wanted o (yielded ops a.tmps)=true:=by unfold Region.wanted; rw [hg]
 simp only [hw,if_true]
 refine Qh hdf (hM X _ _ g a w Q hr hdN (fun x hx => ?_) (fun q hq => ?_) _ fun b g' v w' hr' => ?_)
 ·cases x with
  | tmp t=>exact hf t (by simp only [looks,hom]; unfold Oper.looksAt; rw [List.mem_append]; exact .inl (List.mem_filterMap.2 ⟨_,by simpa using hx,rfl⟩))
  | _=>rfl
 ·rw [ho' q.1 (by rw [hrd]; exact List.mem_map.2 ⟨q,hq,rfl⟩)]
  exact hMr q hq
 ·have hcF:memD (Wf ops (T i0)) (fun i=>listed.getD i false) f ops.size=memD (Wf ops (T b)) (fun i=>listed.getD i false) f ops.size:=z19 _ fun j hj hD=>by
   rcases Nat.lt_or_ge j m with h | h
   ·unfold Wf; rw [hlow b j h]
   ·rw [hno j h hj] at hD; cases hD
  have hcO:memD (Wo (T i0)) (fun i=>listed.getD i false) own ops.size=memD (Wo (T b)) (fun i=>listed.getD i false) own ops.size:=z19 _ fun j hj hD=>by
   rcases Nat.lt_or_ge j m with h | h
   ·unfold Wo; rw [hlow b j h]
   ·rw [hno j h hj] at hD; cases hD
  have hs':=hset listed hs m hml
  have hmf:memD (Wf ops (T b)) (fun j=>(listed.setIfInBounds m true).getD j false) f ops.size=updS (memD (Wf ops (T i0)) (fun i=>listed.getD i false) f ops.size) o.dst (T b m).s:=by
   rw [z4g hml h1 hs',hcF,z3l]
   ·unfold Wf; rw [hom]; rfl
   ·intro j hj hjn hDj
    rw [hno j (by omega) hjn] at hDj; cases hDj
  have hmo:memD (Wo (T b)) (fun j=>(listed.setIfInBounds m true).getD j false) own ops.size=upl (memD (Wo (T i0)) (fun i=>listed.getD i false) own ops.size) (T b m).wr:=by
   rw [z4g hml h1 hs',hcO]
   ·rfl
   ·intro j hj hjn hDj
    rw [hno j (by omega) hjn] at hDj; cases hDj
  refine x1u (P:=P) (X:=X) (Q:=Q) m (fun listed=>listed.getD m false=true) (T b) f own hE hN (fun listed i hi hI=>by rw [hset2 _ _ _ hi]; exact hI) (fun k hk=>by rw [hrd]; exact hsub b k hk) (hT b) (hC b) (fun _ _ _=>hQ b) (fun fuel listed g a w hI _ _ _ _ h1=>by rw [h1] at hI; cases hI) fuel _ g' _ w' (by rw [hs']; simp) (by simpa using hs) ?_ ?_ ?_
  ·have:=y8y (D:=fun i=>listed.getD i false) hml h1 hs'
   omega
  ·intro j o' ho'' hj e he hb
   rw [hs'] at hj ⊢
   by_cases hji:j=m
   ·subst hji
    rw [hall o' ho'' e he hb]; rfl
   ·have:listed.getD j false=true:=by simpa [hji] using hj
    rw [hd j o' ho'' this e he hb]; rfl
  ·rw [hmf,hmo]; exact hr'

end
def aftB (ops:Array Oper) (m:Nat):Bool:=(List.range ops.size).all fun j => !Nat.blt m j || (jz ops ops.size j).contains m
section
variable {P:Program} {X:Ctx} {Q:Exit→(Nat→Slot)→Own→Prop} {f:Nat→Slot} {own:Own}
def seqI {ι:Type} (P:Program) (ops:Array Oper) (o:Oper) (os2:List Oper) (K:(Nat→Slot)→Own→List (List Nat×List Nat)→Prop) (f1:Nat→Slot) (own1:Own) (lg1:List (List Nat×List Nat)) (rd:List (Nat×Option (Option AObj))) (s:ι→Slot) (wr:ι→List (Nat×Option (Option AObj))):Prop:=
 StpI P o f1 rd s wr∧(∀ q,q∈rd→own1 q.1=q.2)∧(∀ b k,k∈keys (wr b)→k∈keys rd)∧∀ b,seqA P ops os2 (updS f1 o.dst (s b)) (upl own1 (wr b)) ((keys rd,keys (wr b))::lg1) K
theorem w67 {ι:Type} (i0:ι) {id N m:Nat} {ops:Array Oper} {os1 os2:List Oper} {o:Oper} (hm:P.follows .mixedOrders=true) (hX:X.N=N) (hops:ops.toList=os1++o::os2) (hlen:os1.length=m) (hg:o.guard=none) (hE:Wn ops=true) (hN:kk N ops=true) (haft:aftB ops m=true)
  (h:seqA P ops os1 f own [] fun f1 own1 lg1=>∃ rd s wr,seqI (ι:=ι) P ops o os2 (fun f2 own2 lg=>z54 ops lg.reverse=true∧Q .normal f2 own2) f1 own1 lg1 rd s wr):AWP P X (.region id ops true) Q f own:=by
 classical
 subst hX
 subst hlen
 intro g a w hr
 refine wpIn_region_any hm ?_
 have hsz:ops.size=os1.length+(os2.length+1):=by
  have:=congrArg List.length hops
  simpa using this
 have hom:ops[os1.length]?=some o:=by
  have:=congrArg (fun l=>l[os1.length]?) hops
  simpa using this
 obtain ⟨T1,lg1,_,a2,a3,a4,rd,s,wr,c1,c2,c3,c4⟩:=x9d (P:=P) (ops:=ops) (tl:=o::os2) os1 0 (fun _=>⟨false,[],[],.any⟩) f own [] _ (by simpa using hops) (Nat.zero_le _) rfl (fun j hj=>absurd hj (by omega)) h
 rw [Nat.zero_add] at a2 a3 a4 c1 c2
 simp only [Nat.zero_add] at c4
 let T2:ι→Nat→Tr:=fun b j=>if j=os1.length then ⟨false,rd,wr b,s b⟩ else T1 j
 have hT2:∀ b j,j≠os1.length→T2 b j=T1 j:=fun b j hj=>if_neg hj
 have hT2m:∀ b,T2 b os1.length=⟨false,rd,wr b,s b⟩:=fun b=>if_pos rfl
 have eW:∀ b n,n≤os1.length→memD (Wf ops (T2 b)) (fun _=>true) f n=memD (Wf ops T1) (fun _=>true) f n:=fun b n hn=>z19 _ fun j hj _=>by unfold Wf; rw [hT2 b j (by omega)]
 have eO:∀ b n,n≤os1.length→memD (Wo (T2 b)) (fun _=>true) own n=memD (Wo T1) (fun _=>true) own n:=fun b n hn=>z19 _ fun j hj _=>by unfold Wo; rw [hT2 b j (by omega)]
 have eW1:∀ b,memD (Wf ops (T2 b)) (fun _=>true) f (os1.length+1)=updS (memD (Wf ops T1) (fun _=>true) f os1.length) o.dst (s b):=fun b=>by
  simp only [memD,if_true,eW b _ (Nat.le_refl _),z3l]
  unfold Wf; rw [hom,hT2m]; rfl
 have eO1:∀ b,memD (Wo (T2 b)) (fun _=>true) own (os1.length+1)=upl (memD (Wo T1) (fun _=>true) own os1.length) (wr b):=fun b=>by
  simp only [memD,if_true,eO b _ (Nat.le_refl _)]
  unfold Wo; rw [hT2m]
 have hT3:∀ b,∃ (T':Nat→Tr) (lg':List (List Nat×List Nat)),(∀ j,j < os1.length+1→T' j=T2 b j)∧(∀ j,j < ops.size→lg'.reverse[j]?=some (keys (T' j).rd,keys (T' j).wr)) ∧
   (∀ j o,os1.length+1≤j→ops[j]?=some o→z1h P ops o (memD (Wf ops T') (fun _=>true) f j) (memD (Wo T') (fun _=>true) own j) (T' j)) ∧
   z54 ops lg'.reverse=true∧Q .normal (memD (Wf ops T') (fun _=>true) f ops.size) (memD (Wo T') (fun _=>true) own ops.size):=fun b=>by
  have h2:=c4 b
  rw [← eW1 b,← eO1 b] at h2
  obtain ⟨T',lg',b1,_,b3,b4,b5,b6⟩:=x1i (P:=P) (ops:=ops) os2 (os1.length+1) (T2 b) f own _ _ (by rw [hops,List.drop_append]; simp) (by omega) (by simp [a2]) (fun j hj=>by
   rw [List.reverse_cons]
   rcases Nat.lt_or_ge j os1.length with hl | hl
   ·rw [List.getElem?_append_left (by simp [a2]; omega),a3 j hl,hT2 b j (by omega)]
   ·obtain rfl:j=os1.length:=by omega
    rw [List.getElem?_append_right (by simp [a2]),hT2m]; simp [a2]) h2
  exact ⟨T',lg',b1,b3,b4,b5,b6⟩
 let T:ι→Nat→Tr:=fun b=>(hT3 b).choose
 have hTl:∀ b,∃ (lg':List (List Nat×List Nat)),(∀ j,j < os1.length+1→T b j=T2 b j)∧(∀ j,j < ops.size→lg'.reverse[j]?=some (keys (T b j).rd,keys (T b j).wr)) ∧
   (∀ j o,os1.length+1≤j→ops[j]?=some o→z1h P ops o (memD (Wf ops (T b)) (fun _=>true) f j) (memD (Wo (T b)) (fun _=>true) own j) (T b j)) ∧
   z54 ops lg'.reverse=true∧Q .normal (memD (Wf ops (T b)) (fun _=>true) f ops.size) (memD (Wo (T b)) (fun _=>true) own ops.size):=fun b=>(hT3 b).choose_spec
 have hT1:∀ b j,j < os1.length→T b j=T1 j:=fun b j hj=>by
  obtain ⟨_,b1,_⟩:=hTl b
  rw [b1 j (by omega),hT2 b j (by omega)]
 have hTm:∀ b,T b os1.length=⟨false,rd,wr b,s b⟩:=fun b=>by
  obtain ⟨_,b1,_⟩:=hTl b
  rw [b1 _ (by omega),hT2m]
 have fW:∀ b n,n≤os1.length→memD (Wf ops (T b)) (fun _=>true) f n=memD (Wf ops T1) (fun _=>true) f n:=fun b n hn=>z19 _ fun j hj _=>by unfold Wf; rw [hT1 b j (by omega)]
 have fO:∀ b n,n≤os1.length→memD (Wo (T b)) (fun _=>true) own n=memD (Wo T1) (fun _=>true) own n:=fun b n hn=>z19 _ fun j hj _=>by unfold Wo; rw [hT1 b j (by omega)]
 refine x90 (P:=P) (ops:=ops) (X:=X) i0 os1.length T f own o hom hg hE hN (fun b i o' hi ho' => ?_) (fun b j hj=>by rw [hT1 b j hj,hT1 i0 j hj]) rd (fun b=>by rw [hTm]) (fun b k hk=>by rw [hTm] at hk; exact c3 b k hk) ?_ (fun q hq=>by rw [fO i0 _ (Nat.le_refl _)]; exact c2 q hq) (fun j hj hjn => ?_) (fun b i j hij hjn hc => ?_) (fun b g a w hr => ?_) _ _ g a _ (z2n _ _) (by simp) ?_ (fun j o ho hj => ?_) ?_
 ·rcases Nat.lt_or_ge i os1.length with hl | hl
  ·rw [fW b i (by omega),fO b i (by omega),hT1 b i hl]
   exact a4 i o' (Nat.zero_le _) hl ho'
  ·obtain ⟨_,_,_,b4,_⟩:=hTl b
   exact b4 i o' (by omega) ho'
 ·rw [fW i0 _ (Nat.le_refl _)]
  have e1:(fun b=>(T b os1.length).s)=s:=by funext b; rw [hTm]
  have e2:(fun b=>(T b os1.length).wr)=wr:=by funext b; rw [hTm]
  rw [e1,e2]
  exact c1
 ·unfold aftB at haft
  have h1:=List.all_eq_true.1 haft j (List.mem_range.2 hjn)
  have h2:Nat.blt os1.length j=true:=by simpa [Nat.blt_eq] using hj
  rw [h2] at h1
  simpa using h1
 ·obtain ⟨lg,_,b3,_,b5,_⟩:=hTl b
  unfold z54 at b5
  rw [List.all_eq_true] at b5
  have h1:=b5 j (List.mem_range.2 hjn)
  rw [List.all_eq_true] at h1
  have h2:=h1 i (List.mem_range.2 hij)
  have e1:∀ q,q < ops.size→lg.reverse.getD q ([],[])=(keys (T b q).rd,keys (T b q).wr):=fun q hq=>by
   rw [List.getD_eq_getElem?_getD,b3 q hq]; rfl
  have e2:vy ops (fun i=>(lg.reverse.getD i ([],[])).1) (fun i=>(lg.reverse.getD i ([],[])).2) i j=vy ops (fun i=>keys (T b i).rd) (fun i=>keys (T b i).wr) i j:=by
   unfold vy
   simp only [e1 i (by omega),e1 j hjn]
  rw [e2,hc] at h2
  simpa using h2
 ·obtain ⟨_,_,_,_,_,b6⟩:=hTl b
  exact ⟨_,_,g,hr,b6⟩
 ·have:∀ n,n≤ops.size→cnt (fun i=>(Array.replicate ops.size false).getD i false) n=n:=by
   intro n
   induction n with
   | zero=>intro _; rfl
   | succ n ih =>
    intro hn
    have:(Array.replicate ops.size false).getD n false=false:=z2n _ _
    simp only [cnt,ih (by omega),this]; rfl
  exact this _ (Nat.le_refl _)
 ·have:(Array.replicate ops.size false).getD j false=false:=z2n _ _
  rw [this] at hj; cases hj
 ·have hz:∀ j,(fun i=>(Array.replicate ops.size false).getD i false) j=false:=fun j=>z2n _ _
  rw [y2b hz,y2b hz]
  exact hr.grow (Kp.refl [] w).drew
theorem y6c {ops:Array Oper} {K K':(Nat→Slot)→Own→List (List Nat×List Nat)→Prop}:∀ (os:List Oper) (f:Nat→Slot) (own:Own) (lg:List (List Nat×List Nat)),seqA P ops os f own lg K→(∀ f own lg,K f own lg→K' f own lg)→seqA P ops os f own lg K'
 | [],_,_,_,h,hk=>hk _ _ _ h
 | o::os,_,_,_,⟨T,h1,h2⟩,hk=>⟨T,h1,y6c os _ _ _ h2 hk⟩
theorem z90 {ι:Type} {id N:Nat} {ops:Array Oper} {os1 os2:List Oper} {o:Oper} (hX:X.N=N) (hops:ops.toList=os1++o::os2) (hg:o.guard=none) (hN:kk N ops=true)
  (h:seqA P ops os1 f own [] fun f1 own1 lg1=>∃ rd s wr,seqI (ι:=ι) P ops o os2 (fun f2 own2 _=>Q .normal f2 own2) f1 own1 lg1 rd s wr):AWP P X (.region id ops false) Q f own:=by
 subst hX
 intro g a w hr
 refine wpIn_region ?_
 have hsz:ops.size=os1.length+(os2.length+1):=by
  have:=congrArg List.length hops
  simpa using this
 have hom:ops[os1.length]?=some o:=by
  have:=congrArg (fun l=>l[os1.length]?) hops
  simpa using this
 have e:List.range ops.size=List.range' 0 (os1.length+(o::os2).length):=by rw [hsz,List.length_cons,List.range_eq_range']
 rw [e]
 refine z3y (P:=P) (X:=X) hN os1 (o::os2) 0 f own [] g a w (by simpa using hops) hr (y6c os1 _ _ _ h ?_)
 intro f1 own1 lg1 hI g a w hr
 obtain ⟨rd,s,wr,c1,c2,c3,c4⟩:=hI
 rw [Nat.zero_add,List.length_cons,List.range'_succ,wpOpsIn_cons]
 obtain ⟨hdN,hdf⟩:=Qu hN hom
 unfold wpOpIn
 rw [hom]
 have hw:Region.wanted o (yielded ops a.tmps)=true:=by unfold Region.wanted; rw [hg]
 simp only [hw,if_true]
 refine Qh hdf (c1 X _ _ g a w _ hr hdN (fun _ _=>rfl) c2 _ fun b g' v w' hr' => ?_)
 exact y1m (P:=P) (X:=X) (Q:=Q) hN os2 (os1.length+1) _ _ _ g' _ w' (by rw [hops,List.drop_append]; simp) hr' (y6c os2 _ _ _ (c4 b) fun _ _ _ h=>h)
end
end Go.Proofs.YtnnfdgngnoamoaaGreatDoor
