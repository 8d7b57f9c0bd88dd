import Derived.Test.YtbpedjpoikmbjaaGreatDoorRng
import Derived.Test.YtbpedjpoikmbjaaGreatDoorMp
import Derived.Test.YtbpedjpoikmbjaaGreatDoorXkm
import Derived.Test.YtbpedjpoikmbjaaGreatDoorMl
namespace Go.Proofs.YtbpedjpoikmbjaaGreatDoor
open Go.RowKit
set_option linter.unusedVariables false
section
variable {P:Program} {ops:Array Oper} {X:Ctx} {Q:Exit->Act->World->Prop}
theorem x4j (m:Nat) (Inv:Array Bool->Prop) (T:Nat->Tr) (f:Nat->Slot) (own:Own) (hE:Wx ops=true) (hN:kz X.N ops=true)
  (hinv:∀ (listed:Array Bool) i,i≠m->Inv listed->Inv (listed.setIfInBounds i true))
  (hsubm:∀ k,k∈keys (T m).wr->k∈keys (T m).rd)
  (hT:∀ i o,i≠m->ops[i]?=some o->z1w P ops o (memD (Wf ops T) (λ_=>true) f i) (memD (Wo T) (λ_=>true) own i) (T i))
  (hC:∀ i j,i < j->j < ops.size->je ops (λi=>keys (T i).rd) (λi=>keys (T i).wr) i j=true->i∈ki ops ops.size j)
  (hQ:∀ listed,Inv listed->(∀ i,i < ops.size->listed.getD i false=true)->∀ g a w,Rel X (memD (Wf ops T) (λ_=>true) f ops.size) (memD (Wo T) (λ_=>true) own ops.size) g a w->Q .normal a w)
  (hcb:∀ (fuel:Nat) (listed:Array Bool) (g:Gh) (a:Act) (w:World),Inv listed->listed.size=ops.size->cnt (λi=>listed.getD i false) ops.size=fuel+1 ->
   (∀ j o,ops[j]?=some o->listed.getD j false=true->∀ e∈o.after,Region.binds .any e=true->listed.getD e.on false=true)->m < ops.size->listed.getD m false=false ->
   (∀ o,ops[m]?=some o->∀ e∈o.after,Region.binds .any e=true->listed.getD e.on false=true)->(∀ j,m∈ki ops ops.size j->listed.getD j false=false) ->
   (∀ t,t∈looks ops m->memD (Wf ops T) (λi=>listed.getD i false) f ops.size t=memD (Wf ops T) (λ_=>true) f m t) ->
   (∀ q,q∈keys (T m).rd->memD (Wo T) (λi=>listed.getD i false) own ops.size q=memD (Wo T) (λ_=>true) own m q) ->
   Rel X (memD (Wf ops T) (λi=>listed.getD i false) f ops.size) (memD (Wo T) (λi=>listed.getD i false) own ops.size) g a w ->
   wpOpIn (FR X.R) 0 P ops Q m (wpAnyIn (FR X.R) 0 P .any ops Q fuel (listed.setIfInBounds m true)) a w) :
  ∀ (fuel:Nat) (listed:Array Bool) (g:Gh) (a:Act) (w:World),Inv listed->listed.size=ops.size->cnt (λi=>listed.getD i false) ops.size=fuel ->
   (∀ j o,ops[j]?=some o->listed.getD j false=true->∀ e∈o.after,Region.binds .any e=true->listed.getD e.on false=true) ->
   Rel X (memD (Wf ops T) (λi=>listed.getD i false) f ops.size) (memD (Wo T) (λi=>listed.getD i false) own ops.size) g a w->wpAnyIn (FR X.R) 0 P .any ops Q fuel listed a w:=by
 have hget:∀ (listed:Array Bool) i,listed.size=ops.size->i < ops.size->listed.getD i true=listed.getD i false:=by
  intro listed i hs hi;rw [Array.getD_eq_getD_getElem?,Array.getD_eq_getD_getElem?,Array.getElem?_eq_getElem (by omega)];rfl
 intro fuel
 induction fuel with
 | zero =>
  intro listed g a w hI hs hc hd hr;have hall:=x7i hc;refine⟨?_,?_⟩
  ·refine List.eq_nil_iff_forall_not_mem.2 λi hi=>?_;obtain⟨h1,o,ho,_⟩:=mem_ready.1 hi;have hlt:i < ops.size:=(Array.getElem?_eq_some_iff.1 ho).1;rw [hget listed i hs hlt,hall i hlt] at h1;cases h1
  ·rw [y3p hall,y3p hall] at hr;exact hQ listed hI hall g a w hr
 | succ fuel ih =>
  intro listed g a w hI hs hc hd hr;refine⟨λhnil=>?_,λi hi=>?_⟩
  ·exfalso
   by_cases hex:∃ i,i < ops.size/\listed.getD i false=false
   ·obtain⟨i,h1,h2⟩:=hex;obtain⟨m,h3,h4,h5⟩:=x5s (D:=λi=>listed.getD i false) ops.size i h1 h2
    have hm:m∈Region.ready .any ops listed:=by
     refine mem_ready.2 ⟨by rw [hget listed m hs h3];exact h4,ops[m],Array.getElem?_eq_getElem h3,λe he hb=>?_⟩;unfold Wx at hE;rw [List.all_eq_true] at hE;have h6:=hE m (List.mem_range.2 h3);rw [Array.getElem?_eq_getElem h3] at h6;rw [List.all_eq_true] at h6;have h7:=h6 e (Array.mem_toList_iff.2 he);rw [hb] at h7;have h8:e.on < m:=by simpa [Nat.blt_eq] using h7
     exact h5 e.on h8
    rw [hnil] at hm;cases hm
   ·have hz:∀ i,i < ops.size->listed.getD i false=true:=λi hi=>by
     cases h:listed.getD i false
     ·exact absurd ⟨i,hi,h⟩ hex
     ·rfl
    have:∀ n,n<=ops.size->cnt (λi=>listed.getD i false) n=0:=by
     intro n
     induction n with
     | zero=>intro _;rfl
     | succ n ihn=>intro hn;simp only [cnt,ihn (by omega),hz n (by omega)];rfl
    rw [this ops.size (Nat.le_refl _)] at hc;omega
  ·obtain⟨h1,o,ho,hall⟩:=mem_ready.1 hi;have hlt:i < ops.size:=(Array.getElem?_eq_some_iff.1 ho).1;rw [hget listed i hs hlt] at h1
   -- who is ahead of i is done;who is behind is not
   have hfore:∀ j,i∈ki ops ops.size j->listed.getD j false=false:=λj hj=>by
    cases h:listed.getD j false
    ·rfl
    ·have:=y5w (D:=λi=>listed.getD i false) hd ops.size j i hj h;simp only [h1] at this;cases this
   have hback:∀ j,j∈ki ops ops.size i->listed.getD j false=true:=by
    intro j hj
    have hD2:∀ j' o',ops[j']?=some o'->(λx=>listed.getD x false || decide (x=i)) j'=true->∀ e∈o'.after,Region.binds .any e=true->(λx=>listed.getD x false || decide (x=i)) e.on=true:=by
     intro j' o' ho' hj' e he hb
     by_cases hji:j'=i
     ·subst hji;rw [ho] at ho';cases ho';simp only [hall e he hb,Bool.true_or]
     ·have:listed.getD j' false=true:=by simpa [hji] using hj'
      simp only [hd j' o' ho' this e he hb,Bool.true_or]
    have h2:=y5w hD2 ops.size i j hj (by simp)
    by_cases hji:j=i
    ·subst hji;have:=hfore j hj;exfalso
     have hlt2:∀ n q,q∈ki ops n j->q < j:=by
      have hE':=hE;unfold Wx at hE';rw [List.all_eq_true] at hE'
      have key:∀ n m q,m < ops.size->q∈ki ops n m->q < m:=by
       intro n
       induction n with
       | zero=>intro m q _ h;cases h
       | succ n ihn =>
        intro m q hm h;unfold ki at h;rw [Array.getElem?_eq_getElem hm] at h;simp only [List.mem_flatMap,Array.mem_toList_iff] at h;obtain⟨e,he,hq⟩:=h
        by_cases hb:Region.binds .any e=true
        ·rw [if_pos hb] at hq;have h6:=hE' m (List.mem_range.2 hm);rw [Array.getElem?_eq_getElem hm] at h6;rw [List.all_eq_true] at h6;have h7:=h6 e (Array.mem_toList_iff.2 he);rw [hb] at h7;have h8:e.on < m:=by simpa [Nat.blt_eq] using h7
         rcases List.mem_cons.1 hq with rfl|hq
         ·exact h8
         ·have:=ihn e.on q (by omega) hq;omega
        ·rw [if_neg hb] at hq;cases hq
      exact λn q hq=>key n j q hlt hq
     have:=hlt2 _ _ hj;omega
    ·simpa [hji] using h2
   have hcl1:∀ j,j < i->je ops (λi=>keys (T i).rd) (λi=>keys (T i).wr) j i=true->listed.getD j false=true:=λj hj hc=>hback j (hC j i hj hlt hc);have hcl2:∀ j,i < j->j < ops.size->je ops (λi=>keys (T i).rd) (λi=>keys (T i).wr) i j=true->listed.getD j false=false:=λj hj hjn hc=>hfore j (hC i j hj hjn hc)
   have hself:∀ j,i<=j->j < ops.size->je ops (λi=>keys (T i).rd) (λi=>keys (T i).wr) i j=true->listed.getD j false=false:=λj hj hjn hc=>by
    rcases Nat.lt_or_ge i j with h|h
    ·exact hcl2 j h hjn hc
    ·obtain rfl:i=j:=by omega
     exact h1
   have hkf:∀ j d,d∈keys (Wf ops T j)->d∈z1l ops j:=by
    intro j d hd;unfold Wf at hd;unfold z1l
    cases hq:(ops[j]?).bind (·.dst) with
    | none=>rw [hq] at hd;cases hd
    | some d'=>rw [hq] at hd;simpa [keys] using hd
   have hlooks:looks ops i=o.looksAt ops:=by simp [looks,ho]
   have hf:∀ t,t∈looks ops i->memD (Wf ops T) (λi=>listed.getD i false) f ops.size t=memD (Wf ops T) (λ_=>true) f i t:=λt ht =>
    y3q (Nat.le_of_lt hlt)
     (λj hj hk=>hcl1 j hj (by unfold je;rw [Yf (hkf j t hk) ht];simp))
     (λj hj hjn hk=>hself j hj hjn (by unfold je;rw [Yf (hkf j t hk) ht];simp))
   have ho':∀ q,q∈keys (T i).rd->memD (Wo T) (λi=>listed.getD i false) own ops.size q=memD (Wo T) (λ_=>true) own i q:=λq hq =>
    y3q (Nat.le_of_lt hlt)
     (λj hj hk=>hcl1 j hj (by unfold je;rw [Yf (a:=keys (T j).wr) hk hq];simp))
     (λj hj hjn hk=>hself j hj hjn (by unfold je;rw [Yf (b:=keys (T j).wr) hq hk];simp))
   by_cases him:i=m
   ·subst him;exact hcb fuel listed g a w hI hs hc hd hlt h1 (λo' ho2=>by rw [ho] at ho2;cases ho2;exact hall) hfore hf ho' hr
   obtain⟨hgd,hrun,hskip,hsub⟩:=hT i o him ho
   -- the next state
   have hset:∀ j,(listed.setIfInBounds i true).getD j false=(listed.getD j false || decide (j=i)):=by
    intro j;rw [Array.getD_eq_getD_getElem?,Array.getD_eq_getD_getElem?,Array.getElem?_setIfInBounds]
    by_cases hj:i=j
    ·subst hj;simp [hs,hlt]
    ·rw [if_neg hj];simp [Ne.symm hj]
   have hmf:memD (Wf ops T) (λj=>(listed.setIfInBounds i true).getD j false) f ops.size=updS (memD (Wf ops T) (λi=>listed.getD i false) f ops.size) o.dst (T i).s:=by
    rw [z5h hlt h1 hset,z4e]
    ·unfold Wf;rw [ho];rfl
    ·intro j hj hjn hDj k hk1 hk2;have:=hcl2 j hj hjn (by unfold je;rw [Yf (hkf i k hk1) (hkf j k hk2)];simp);rw [this] at hDj;cases hDj
   have hmo:memD (Wo T) (λj=>(listed.setIfInBounds i true).getD j false) own ops.size=upl (memD (Wo T) (λi=>listed.getD i false) own ops.size) (T i).wr:=by
    rw [z5h hlt h1 hset]
    ·rfl
    ·intro j hj hjn hDj k hk1 hk2;have hjo:∃ oj,ops[j]?=some oj:=⟨ops[j],Array.getElem?_eq_getElem hjn⟩
     obtain⟨oj,hoj⟩:=hjo
     have:=hcl2 j hj hjn (by unfold je;rw [Yf (a:=keys (T i).wr) hk1 ((show ∀ k,k∈keys (T j).wr->k∈keys (T j).rd from by
      by_cases hjm:j=m
      ·rw [hjm];exact hsubm
      ·exact (hT j oj hjm hoj).2.2.2) k hk2)];simp)
     rw [this] at hDj;cases hDj
   have hnext:∀ g' v w',Rel X (updS (memD (Wf ops T) (λi=>listed.getD i false) f ops.size) o.dst (T i).s) (upl (memD (Wo T) (λi=>listed.getD i false) own ops.size) (T i).wr) g' (a.put o.dst v) w' ->
     wpAnyIn (FR X.R) 0 P .any ops Q fuel (listed.setIfInBounds i true) (a.put o.dst v) w':=by
    intro g' v w' hr';refine ih _ g' _ w' (hinv _ _ him hI) (by simpa using hs) ?_ ?_ ?_
    ·have:=x0w (D:=λi=>listed.getD i false) hlt h1 hset;omega
    ·intro j o' ho'' hj e he hb;rw [hset] at hj ⊢
     by_cases hji:j=i
     ·subst hji;rw [ho] at ho'';cases ho'';rw [hall e he hb];rfl
     ·have:listed.getD j false=true:=by simpa [hji] using hj
      rw [hd j o' ho'' this e he hb];rfl
    ·rw [hmf,hmo];exact hr'
   obtain⟨hdN,hdf⟩:=Wj hN ho;unfold wpOpIn;rw [ho]
   have hw:Region.wanted o (yielded ops a.tmps) = !(T i).skip:=by
    refine z4c hr ?_
    cases hgo:o.guard with
    | none=>rw [hgo] at hgd;exact hgd
    | some q =>
     obtain⟨j,want⟩:=q;rw [hgo] at hgd;obtain⟨d,v,g1,g2,g3⟩:=hgd;refine⟨d,v,g1,?_,g3⟩;rw [hf d (by rw [hlooks];unfold Oper.looksAt;rw [hgo];simp [g1])];exact g2
   cases hsk:(T i).skip with
   | false =>
    rw [hsk] at hw;simp only [hw,Bool.not_false,if_true];obtain⟨hst,hrd⟩:=hrun hsk;refine Qs hdf (hst X _ _ g a w Q hr hdN (λx hx=>?_) (λq hq=>?_) _ hnext)
    ·cases x with
     | tmp t=>exact hf t (by rw [hlooks];unfold Oper.looksAt;rw [List.mem_append];exact .inl (List.mem_filterMap.2 ⟨_,by simpa using hx,rfl⟩))
     | _=>rfl
    ·rw [ho' q.1 (List.mem_map.2 ⟨q,hq,rfl⟩)];exact hrd q hq
   | true =>
    rw [hsk] at hw;simp only [hw,Bool.not_true,Bool.false_eq_true,if_false];obtain⟨e1,e2,e3⟩:=hskip hsk;refine⟨λ_ _=>trivial,hnext g undef w ?_⟩;rw [e1,e3];exact hr.put o.dst (.dat (vval undef)) undef hdN rfl

theorem w1k {tl:List Oper}:∀ (os:List Oper) (i:Nat) (T:Nat->Tr) (f:Nat->Slot) (own:Own) (lg:List (List Nat×List Nat)) (K:(Nat->Slot)->Own->List (List Nat×List Nat)->Prop),
  ops.toList.drop i=os++tl->i<=ops.size->lg.length=i->(∀ j,j < i->lg.reverse[j]?=some (keys (T j).rd,keys (T j).wr)) ->
  seqA P ops os (memD (Wf ops T) (λ_=>true) f i) (memD (Wo T) (λ_=>true) own i) lg K ->
  ∃ (T':Nat->Tr) (lg':List (List Nat×List Nat)),(∀ j,j < i->T' j=T j)/\lg'.length=i+os.length/\(∀ j,j < i+os.length->lg'.reverse[j]?=some (keys (T' j).rd,keys (T' j).wr)) /\
   (∀ j o,i<=j->j < i+os.length->ops[j]?=some o->z1w P ops o (memD (Wf ops T') (λ_=>true) f j) (memD (Wo T') (λ_=>true) own j) (T' j)) /\
   K (memD (Wf ops T') (λ_=>true) f (i+os.length)) (memD (Wo T') (λ_=>true) own (i+os.length)) lg':=by
 intro os
 induction os with
 | nil =>
  intro i T f own lg K hos hi hl hlg h;exact⟨T,lg,λ_ _=>rfl,hl,hlg,λj o hj hj2 ho=>by simp at hj2;omega,h⟩
 | cons o os ih =>
  intro i T f own lg K hos hi hl hlg h
  have hlt:i < ops.size:=by
   have h2:=congrArg List.length hos;simp only [List.length_drop,List.length_append,List.length_cons,Array.length_toList] at h2;omega
  have hoi:ops[i]?=some o:=by
   have h2:=List.drop_eq_getElem_cons (l:=ops.toList) (i:=i) (by simpa using hlt);rw [hos] at h2;injection h2 with h3 h4
   rw [Array.getElem?_eq_getElem hlt];exact congrArg some h3.symm
  have hos':ops.toList.drop (i+1)=os++tl:=by
   have h2:=List.drop_eq_getElem_cons (l:=ops.toList) (i:=i) (by simpa using hlt);rw [hos] at h2;injection h2 with h3 h4
   exact h4.symm
  obtain⟨t,h1,h2⟩:=h
  let T1:Nat->Tr:=λj=>if j=i then t else T j
  have hT1:∀ j,j < i->T1 j=T j:=λj hj=>if_neg (by omega);have hT1i:T1 i=t:=if_pos rfl
  have hmF:∀ m,m<=i->memD (Wf ops T1) (λ_=>true) f m=memD (Wf ops T) (λ_=>true) f m:=by
   intro m
   induction m with
   | zero=>intro _;rfl
   | succ m ihm =>
    intro hm;have:Wf ops T1 m=Wf ops T m:=by unfold Wf;rw [hT1 m (by omega)]
    simp only [memD,if_true,ihm (by omega),this]
  have hmO:∀ m,m<=i->memD (Wo T1) (λ_=>true) own m=memD (Wo T) (λ_=>true) own m:=by
   intro m
   induction m with
   | zero=>intro _;rfl
   | succ m ihm =>
    intro hm;have:Wo T1 m=Wo T m:=by unfold Wo;rw [hT1 m (by omega)]
    simp only [memD,if_true,ihm (by omega),this]
  have eF:memD (Wf ops T1) (λ_=>true) f (i+1)=updS (memD (Wf ops T) (λ_=>true) f i) o.dst t.s:=by
   simp only [memD,if_true,hmF i (Nat.le_refl _),z4e];unfold Wf;rw [hoi,hT1i];rfl
  have eO:memD (Wo T1) (λ_=>true) own (i+1)=upl (memD (Wo T) (λ_=>true) own i) t.wr:=by
   simp only [memD,if_true,hmO i (Nat.le_refl _)];unfold Wo;rw [hT1i]
  rw [← eF,← eO] at h2
  obtain⟨T',lg',a1,a2,a3,a4,a5⟩:=ih (i+1) T1 f own _ K hos' hlt (by simp [hl]) (λj hj=>by
   rw [List.reverse_cons];rcases Nat.lt_or_ge j i with hl'|hl'
   ·rw [List.getElem?_append_left (by simp;omega),hlg j hl',hT1 j hl']
   ·obtain rfl:j=i:=by omega
    rw [List.getElem?_append_right (by simp [hl]),hT1i];simp [hl]) h2
  have hn:i+1+os.length=i+(o::os).length:=by simp only [List.length_cons];omega
  rw [hn] at a2 a3 a4 a5;refine⟨T',lg',λj hj=>(a1 j (by omega)).trans (hT1 j hj),a2,a3,λj o' hj hj2 ho'=>?_,a5⟩;rcases Nat.lt_or_ge i j with hl'|hl'
  ·exact a4 j o' hl' hj2 ho'
  ·obtain rfl:j=i:=by omega
   rw [hoi] at ho';cases ho';have e1:T' j=t:=(a1 j (by omega)).trans hT1i
   have eF':memD (Wf ops T') (λ_=>true) f j=memD (Wf ops T) (λ_=>true) f j:=by
    have:∀ m,m<=j->memD (Wf ops T') (λ_=>true) f m=memD (Wf ops T) (λ_=>true) f m:=by
     intro m
     induction m with
     | zero=>intro _;rfl
     | succ m ihm =>
      intro hm;have:Wf ops T' m=Wf ops T m:=by unfold Wf;rw [a1 m (by omega),hT1 m (by omega)]
      simp only [memD,if_true,ihm (by omega),this]
    exact this j (Nat.le_refl _)
   have eO':memD (Wo T') (λ_=>true) own j=memD (Wo T) (λ_=>true) own j:=by
    have:∀ m,m<=j->memD (Wo T') (λ_=>true) own m=memD (Wo T) (λ_=>true) own m:=by
     intro m
     induction m with
     | zero=>intro _;rfl
     | succ m ihm =>
      intro hm;have:Wo T' m=Wo T m:=by unfold Wo;rw [a1 m (by omega),hT1 m (by omega)]
      simp only [memD,if_true,ihm (by omega),this]
    exact this j (Nat.le_refl _)
   rw [e1,eF',eO'];exact h1
theorem z2q {β:Type} {W W':Nat->List (Nat×β)} {D:Nat->Bool} {f:Nat->β}:∀ (n:Nat),(∀ j,j < n->D j=true->W j=W' j)->memD W D f n=memD W' D f n
 | 0,_=>rfl
 | n+1,h=>by
  have ih:=z2q (f:=f) n λj hj=>h j (by omega);simp only [memD,ih]
  cases hD:D n with
  | false=>rfl
  | true=>simp only [if_true,h n (by omega) hD]
def StpI {ι:Type} (P:Program) (o:Oper) (f:Nat->Slot) (rd:List (Nat×Option (Option AObj))) (s:ι->Slot) (wr:ι->List (Nat×Option (Option AObj))):Prop:=
 ∀ (X:Ctx) (f':Nat->Slot) (own:Own) (g:Gh) (a:Act) (w:World) (Q:Exit->Act->World->Prop),Rel X f' own g a w->(∀ d,o.dst=some d->d < X.N) ->
  (∀ x,x∈o.op.operands->evS f' x=evS f x)->(∀ q,q∈rd->own q.1=q.2) ->
  ∀ K:Act->World->Prop,(∀ b g' v w',Rel X (updS f' o.dst (s b)) (upl own (wr b)) g' (a.put o.dst v) w'->K (a.put o.dst v) w')->o.wp P a w K Q
theorem x3s {o:Oper} {f:Nat->Slot} {id:Nat} {t:TypeId} {cs:List Slot} (h:Stp P o f ⟨false,[(id,none)],[(id,some (some (.box none t cs)))],.ptr id 0⟩) :
  StpI P o f [(id,none)] (λb:Nat=>.dat (vval (PB b))) (λb=>[(id,some (some (.box (some b) t cs)))]):=by
 intro X f' own g a w Q hr hd hx hrd K hK;refine h X f' own g a w Q hr hd hx hrd K λg' v w' hR=>?_;have ho:upl own [(id,some (some (.box none t cs)))] id=some (some (.box none t cs)):=vp;obtain⟨b,l,q1,q0,q2⟩:=hR.ob id _ ho;refine hK b g' v w' ?_;refine hR.view (id:=id) (an2:=some b) ho ?_ (λq hq b' hb'=>by cases hq;rw [q1] at hb';exact Option.some.inj hb') λk v hv=>?_
 ·funext i
  by_cases hi:i=id
  ·subst hi;rw [vp,vp]
  ·rw [ve hi,ve hi,ve hi]
 ·refine x8x (λv hv=>?_) k v hv;obtain⟨b',h1,h2⟩:=hv;rw [q1] at h1;cases h1;exact h2
theorem w13 {ι:Type} (i0:ι) (m:Nat) (T:ι->Nat->Tr) (f:Nat->Slot) (own:Own) (o:Oper) (hom:ops[m]?=some o) (hg:o.guard=none) (hE:Wx ops=true) (hN:kz X.N ops=true)
  (hT:∀ b i o,i≠m->ops[i]?=some o->z1w P ops o (memD (Wf ops (T b)) (λ_=>true) f i) (memD (Wo (T b)) (λ_=>true) own i) (T b i))
  (hlow:∀ b j,j < m->T b j=T i0 j)
  (rd:List (Nat×Option (Option AObj))) (hrd:∀ b,(T b m).rd=rd) (hsub:∀ b k,k∈keys (T b m).wr->k∈keys rd)
  (hM:StpI P o (memD (Wf ops (T i0)) (λ_=>true) f m) rd (λb=>(T b m).s) (λb=>(T b m).wr)) (hMr:∀ q,q∈rd->memD (Wo (T i0)) (λ_=>true) own m q.1=q.2)
  (haft:∀ j,m < j->j < ops.size->m∈ki ops ops.size j)
  (hC:∀ b i j,i < j->j < ops.size->je ops (λi=>keys (T b i).rd) (λi=>keys (T b i).wr) i j=true->i∈ki ops ops.size j)
  (hQ:∀ b g a w,Rel X (memD (Wf ops (T b)) (λ_=>true) f ops.size) (memD (Wo (T b)) (λ_=>true) own ops.size) g a w->Q .normal a w) :
  ∀ (fuel:Nat) (listed:Array Bool) (g:Gh) (a:Act) (w:World),listed.getD m false=false->listed.size=ops.size->cnt (λi=>listed.getD i false) ops.size=fuel ->
   (∀ j o,ops[j]?=some o->listed.getD j false=true->∀ e∈o.after,Region.binds .any e=true->listed.getD e.on false=true) ->
   Rel X (memD (Wf ops (T i0)) (λi=>listed.getD i false) f ops.size) (memD (Wo (T i0)) (λi=>listed.getD i false) own ops.size) g a w->wpAnyIn (FR X.R) 0 P .any ops Q fuel listed a w:=by
 have hml:m < ops.size:=(Array.getElem?_eq_some_iff.1 hom).1
 have hset:∀ (listed:Array Bool),listed.size=ops.size->∀ i,i < ops.size->∀ j,(listed.setIfInBounds i true).getD j false=(listed.getD j false || decide (j=i)):=by
  intro listed hs i hi j;rw [Array.getD_eq_getD_getElem?,Array.getD_eq_getD_getElem?,Array.getElem?_setIfInBounds]
  by_cases hj:i=j
  ·subst hj;simp [hs,hi]
  ·rw [if_neg hj];simp [Ne.symm hj]
 have hset2:∀ (listed:Array Bool) i j,i≠j->(listed.setIfInBounds i true).getD j false=listed.getD j false:=by
  intro listed i j hij;rw [Array.getD_eq_getD_getElem?,Array.getD_eq_getD_getElem?,Array.getElem?_setIfInBounds,if_neg hij]
 refine x4j (P:=P) (X:=X) (Q:=Q) m (λlisted=>listed.getD m false=false) (T i0) f own hE hN (λlisted i hi hI=>by rw [hset2 _ _ _ hi];exact hI) (λk hk=>by rw [hrd];exact hsub i0 k hk) (hT i0) (hC i0) (λlisted hI hall=>by
  have:=hall m hml
  rw [hI] at this;cases this) ?_
 intro fuel listed g a w hI hs hc hd _ h1 hall hfore hf ho' hr
 have hno:∀ j,m<=j->j < ops.size->listed.getD j false=false:=λj hj hjn=>by
  rcases Nat.lt_or_ge m j with h|h
  ·exact hfore j (haft j h hjn)
  ·obtain rfl:m=j:=by omega
   exact h1
 obtain⟨hdN,hdf⟩:=Wj hN hom;unfold wpOpIn;rw [hom];have hw:Region.wanted o (yielded ops a.tmps)=true:=by unfold Region.wanted;rw [hg]
 simp only [hw,if_true];refine Qs hdf (hM X _ _ g a w Q hr hdN (λx hx=>?_) (λq hq=>?_) _ λb g' v w' hr'=>?_)
 ·cases x with
  | tmp t=>exact hf t (by simp only [looks,hom];unfold Oper.looksAt;rw [List.mem_append];exact .inl (List.mem_filterMap.2 ⟨_,by simpa using hx,rfl⟩))
  | _=>rfl
 ·rw [ho' q.1 (by rw [hrd];exact List.mem_map.2 ⟨q,hq,rfl⟩)];exact hMr q hq
 ·have hcF:memD (Wf ops (T i0)) (λi=>listed.getD i false) f ops.size=memD (Wf ops (T b)) (λi=>listed.getD i false) f ops.size:=z2q _ λj hj hD=>by
   rcases Nat.lt_or_ge j m with h|h
   ·unfold Wf;rw [hlow b j h]
   ·rw [hno j h hj] at hD;cases hD
  have hcO:memD (Wo (T i0)) (λi=>listed.getD i false) own ops.size=memD (Wo (T b)) (λi=>listed.getD i false) own ops.size:=z2q _ λj hj hD=>by
   rcases Nat.lt_or_ge j m with h|h
   ·unfold Wo;rw [hlow b j h]
   ·rw [hno j h hj] at hD;cases hD
  have hs':=hset listed hs m hml
  have hmf:memD (Wf ops (T b)) (λj=>(listed.setIfInBounds m true).getD j false) f ops.size=updS (memD (Wf ops (T i0)) (λi=>listed.getD i false) f ops.size) o.dst (T b m).s:=by
   rw [z5h hml h1 hs',hcF,z4e]
   ·unfold Wf;rw [hom];rfl
   ·intro j hj hjn hDj;rw [hno j (by omega) hjn] at hDj;cases hDj
  have hmo:memD (Wo (T b)) (λj=>(listed.setIfInBounds m true).getD j false) own ops.size=upl (memD (Wo (T i0)) (λi=>listed.getD i false) own ops.size) (T b m).wr:=by
   rw [z5h hml h1 hs',hcO]
   ·rfl
   ·intro j hj hjn hDj;rw [hno j (by omega) hjn] at hDj;cases hDj
  refine x4j (P:=P) (X:=X) (Q:=Q) m (λlisted=>listed.getD m false=true) (T b) f own hE hN (λlisted i hi hI=>by rw [hset2 _ _ _ hi];exact hI) (λk hk=>by rw [hrd];exact hsub b k hk) (hT b) (hC b) (λ_ _ _=>hQ b) (λfuel listed g a w hI _ _ _ _ h1=>by rw [h1] at hI;cases hI) fuel _ g' _ w' (by rw [hs'];simp) (by simpa using hs) ?_ ?_ ?_
  ·have:=x0w (D:=λi=>listed.getD i false) hml h1 hs';omega
  ·intro j o' ho'' hj e he hb;rw [hs'] at hj ⊢
   by_cases hji:j=m
   ·subst hji;rw [hall o' ho'' e he hb];rfl
   ·have:listed.getD j false=true:=by simpa [hji] using hj
    rw [hd j o' ho'' this e he hb];rfl
  ·rw [hmf,hmo];exact hr'

end
def aftB (ops:Array Oper) (m:Nat):Bool:=(List.range ops.size).all λj=>!Nat.blt m j || (ki ops ops.size j).contains m
section
variable {P:Program} {X:Ctx} {Q:Exit->(Nat->Slot)->Own->Prop} {f:Nat->Slot} {own:Own}
def seqI {ι:Type} (P:Program) (ops:Array Oper) (o:Oper) (os2:List Oper) (K:(Nat->Slot)->Own->List (List Nat×List Nat)->Prop) (f1:Nat->Slot) (own1:Own) (lg1:List (List Nat×List Nat)) (rd:List (Nat×Option (Option AObj))) (s:ι->Slot) (wr:ι->List (Nat×Option (Option AObj))):Prop:=
 StpI P o f1 rd s wr/\(∀ q,q∈rd->own1 q.1=q.2)/\(∀ b k,k∈keys (wr b)->k∈keys rd)/\∀ b,seqA P ops os2 (updS f1 o.dst (s b)) (upl own1 (wr b)) ((keys rd,keys (wr b))::lg1) K
theorem w9m {ι:Type} (i0:ι) {id N m:Nat} {ops:Array Oper} {os1 os2:List Oper} {o:Oper} (hm:P.follows .mixedOrders=true) (hX:X.N=N) (hops:ops.toList=os1++o::os2) (hlen:os1.length=m) (hg:o.guard=none) (hE:Wx ops=true) (hN:kz N ops=true) (haft:aftB ops m=true)
  (h:seqA P ops os1 f own [] λf1 own1 lg1=>∃ rd s wr,seqI (ι:=ι) P ops o os2 (λf2 own2 lg=>z7n ops lg.reverse=true/\Q .normal f2 own2) f1 own1 lg1 rd s wr):AWP P X (.region id ops true) Q f own:=by
 classical
 subst hX;subst hlen;intro g a w hr;refine wpIn_region_any hm ?_
 have hsz:ops.size=os1.length+(os2.length+1):=by
  have:=congrArg List.length hops;simpa using this
 have hom:ops[os1.length]?=some o:=by
  have:=congrArg (λl=>l[os1.length]?) hops;simpa using this
 obtain⟨T1,lg1,_,a2,a3,a4,rd,s,wr,c1,c2,c3,c4⟩:=w1k (P:=P) (ops:=ops) (tl:=o::os2) os1 0 (λ_=>⟨false,[],[],.any⟩) f own [] _ (by simpa using hops) (Nat.zero_le _) rfl (λj hj=>absurd hj (by omega)) h;rw [Nat.zero_add] at a2 a3 a4 c1 c2;simp only [Nat.zero_add] at c4
 let T2:ι->Nat->Tr:=λb j=>if j=os1.length then ⟨false,rd,wr b,s b⟩ else T1 j
 have hT2:∀ b j,j≠os1.length->T2 b j=T1 j:=λb j hj=>if_neg hj;have hT2m:∀ b,T2 b os1.length=⟨false,rd,wr b,s b⟩:=λb=>if_pos rfl;have eW:∀ b n,n<=os1.length->memD (Wf ops (T2 b)) (λ_=>true) f n=memD (Wf ops T1) (λ_=>true) f n:=λb n hn=>z2q _ λj hj _=>by unfold Wf;rw [hT2 b j (by omega)]
 have eO:∀ b n,n<=os1.length->memD (Wo (T2 b)) (λ_=>true) own n=memD (Wo T1) (λ_=>true) own n:=λb n hn=>z2q _ λj hj _=>by unfold Wo;rw [hT2 b j (by omega)]
 have eW1:∀ b,memD (Wf ops (T2 b)) (λ_=>true) f (os1.length+1)=updS (memD (Wf ops T1) (λ_=>true) f os1.length) o.dst (s b):=λb=>by
  simp only [memD,if_true,eW b _ (Nat.le_refl _),z4e];unfold Wf;rw [hom,hT2m];rfl
 have eO1:∀ b,memD (Wo (T2 b)) (λ_=>true) own (os1.length+1)=upl (memD (Wo T1) (λ_=>true) own os1.length) (wr b):=λb=>by
  simp only [memD,if_true,eO b _ (Nat.le_refl _)];unfold Wo;rw [hT2m]
 have hT3:∀ b,∃ (T':Nat->Tr) (lg':List (List Nat×List Nat)),(∀ j,j < os1.length+1->T' j=T2 b j)/\(∀ j,j < ops.size->lg'.reverse[j]?=some (keys (T' j).rd,keys (T' j).wr)) /\
   (∀ j o,os1.length+1<=j->ops[j]?=some o->z1w P ops o (memD (Wf ops T') (λ_=>true) f j) (memD (Wo T') (λ_=>true) own j) (T' j)) /\
   z7n ops lg'.reverse=true/\Q .normal (memD (Wf ops T') (λ_=>true) f ops.size) (memD (Wo T') (λ_=>true) own ops.size):=λb=>by
  have h2:=c4 b;rw [← eW1 b,← eO1 b] at h2
  obtain⟨T',lg',b1,_,b3,b4,b5,b6⟩:=x39 (P:=P) (ops:=ops) os2 (os1.length+1) (T2 b) f own _ _ (by rw [hops,List.drop_append];simp) (by omega) (by simp [a2]) (λj hj=>by
   rw [List.reverse_cons];rcases Nat.lt_or_ge j os1.length with hl|hl
   ·rw [List.getElem?_append_left (by simp [a2];omega),a3 j hl,hT2 b j (by omega)]
   ·obtain rfl:j=os1.length:=by omega
    rw [List.getElem?_append_right (by simp [a2]),hT2m];simp [a2]) h2
  exact⟨T',lg',b1,b3,b4,b5,b6⟩
 let T:ι->Nat->Tr:=λb=>(hT3 b).choose
 have hTl:∀ b,∃ (lg':List (List Nat×List Nat)),(∀ j,j < os1.length+1->T b j=T2 b j)/\(∀ j,j < ops.size->lg'.reverse[j]?=some (keys (T b j).rd,keys (T b j).wr)) /\
   (∀ j o,os1.length+1<=j->ops[j]?=some o->z1w P ops o (memD (Wf ops (T b)) (λ_=>true) f j) (memD (Wo (T b)) (λ_=>true) own j) (T b j)) /\
   z7n ops lg'.reverse=true/\Q .normal (memD (Wf ops (T b)) (λ_=>true) f ops.size) (memD (Wo (T b)) (λ_=>true) own ops.size):=λb=>(hT3 b).choose_spec
 have hT1:∀ b j,j < os1.length->T b j=T1 j:=λb j hj=>by
  obtain⟨_,b1,_⟩:=hTl b;rw [b1 j (by omega),hT2 b j (by omega)]
 have hTm:∀ b,T b os1.length=⟨false,rd,wr b,s b⟩:=λb=>by
  obtain⟨_,b1,_⟩:=hTl b;rw [b1 _ (by omega),hT2m]
 have fW:∀ b n,n<=os1.length->memD (Wf ops (T b)) (λ_=>true) f n=memD (Wf ops T1) (λ_=>true) f n:=λb n hn=>z2q _ λj hj _=>by unfold Wf;rw [hT1 b j (by omega)]
 have fO:∀ b n,n<=os1.length->memD (Wo (T b)) (λ_=>true) own n=memD (Wo T1) (λ_=>true) own n:=λb n hn=>z2q _ λj hj _=>by unfold Wo;rw [hT1 b j (by omega)]
 refine w13 (P:=P) (ops:=ops) (X:=X) i0 os1.length T f own o hom hg hE hN (λb i o' hi ho'=>?_) (λb j hj=>by rw [hT1 b j hj,hT1 i0 j hj]) rd (λb=>by rw [hTm]) (λb k hk=>by rw [hTm] at hk;exact c3 b k hk) ?_ (λq hq=>by rw [fO i0 _ (Nat.le_refl _)];exact c2 q hq) (λj hj hjn=>?_) (λb i j hij hjn hc=>?_) (λb g a w hr=>?_) _ _ g a _ (z3a _ _) (by simp) ?_ (λj o ho hj=>?_) ?_
 ·rcases Nat.lt_or_ge i os1.length with hl|hl
  ·rw [fW b i (by omega),fO b i (by omega),hT1 b i hl];exact a4 i o' (Nat.zero_le _) hl ho'
  ·obtain⟨_,_,_,b4,_⟩:=hTl b;exact b4 i o' (by omega) ho'
 ·rw [fW i0 _ (Nat.le_refl _)];have e1:(λb=>(T b os1.length).s)=s:=by funext b;rw [hTm]
  have e2:(λb=>(T b os1.length).wr)=wr:=by funext b;rw [hTm]
  rw [e1,e2];exact c1
 ·unfold aftB at haft;have h1:=List.all_eq_true.1 haft j (List.mem_range.2 hjn);have h2:Nat.blt os1.length j=true:=by simpa [Nat.blt_eq] using hj
  rw [h2] at h1;simpa using h1
 ·obtain⟨lg,_,b3,_,b5,_⟩:=hTl b;unfold z7n at b5;rw [List.all_eq_true] at b5;have h1:=b5 j (List.mem_range.2 hjn);rw [List.all_eq_true] at h1;have h2:=h1 i (List.mem_range.2 hij)
  have e1:∀ q,q < ops.size->lg.reverse.getD q ([],[])=(keys (T b q).rd,keys (T b q).wr):=λq hq=>by
   rw [List.getD_eq_getElem?_getD,b3 q hq];rfl
  have e2:je ops (λi=>(lg.reverse.getD i ([],[])).1) (λi=>(lg.reverse.getD i ([],[])).2) i j=je ops (λi=>keys (T b i).rd) (λi=>keys (T b i).wr) i j:=by
   unfold je;simp only [e1 i (by omega),e1 j hjn]
  rw [e2,hc] at h2;simpa using h2
 ·obtain⟨_,_,_,_,_,b6⟩:=hTl b;exact⟨_,_,g,hr,b6⟩
 ·have:∀ n,n<=ops.size->cnt (λi=>(Array.replicate ops.size false).getD i false) n=n:=by
   intro n
   induction n with
   | zero=>intro _;rfl
   | succ n ih =>
    intro hn;have:(Array.replicate ops.size false).getD n false=false:=z3a _ _;simp only [cnt,ih (by omega),this];rfl
  exact this _ (Nat.le_refl _)
 ·have:(Array.replicate ops.size false).getD j false=false:=z3a _ _;rw [this] at hj;cases hj
 ·have hz:∀ j,(λi=>(Array.replicate ops.size false).getD i false) j=false:=λj=>z3a _ _;rw [y3o hz,y3o hz];exact hr.grow (Kp.refl [] w).drew
theorem y7u {ops:Array Oper} {K K':(Nat->Slot)->Own->List (List Nat×List Nat)->Prop}:∀ (os:List Oper) (f:Nat->Slot) (own:Own) (lg:List (List Nat×List Nat)),seqA P ops os f own lg K->(∀ f own lg,K f own lg->K' f own lg)->seqA P ops os f own lg K'
 | [],_,_,_,h,hk=>hk _ _ _ h
 | o::os,_,_,_,⟨T,h1,h2⟩,hk=>⟨T,h1,y7u os _ _ _ h2 hk⟩
theorem z35 {ι:Type} {id N:Nat} {ops:Array Oper} {os1 os2:List Oper} {o:Oper} (hX:X.N=N) (hops:ops.toList=os1++o::os2) (hg:o.guard=none) (hN:kz N ops=true)
  (h:seqA P ops os1 f own [] λf1 own1 lg1=>∃ rd s wr,seqI (ι:=ι) P ops o os2 (λf2 own2 _=>Q .normal f2 own2) f1 own1 lg1 rd s wr):AWP P X (.region id ops false) Q f own:=by
 subst hX;intro g a w hr;refine wpIn_region ?_
 have hsz:ops.size=os1.length+(os2.length+1):=by
  have:=congrArg List.length hops;simpa using this
 have hom:ops[os1.length]?=some o:=by
  have:=congrArg (λl=>l[os1.length]?) hops;simpa using this
 have e:List.range ops.size=List.range' 0 (os1.length+(o::os2).length):=by rw [hsz,List.length_cons,List.range_eq_range']
 rw [e];refine z2e (P:=P) (X:=X) hN os1 (o::os2) 0 f own [] g a w (by simpa using hops) hr (y7u os1 _ _ _ h ?_);intro f1 own1 lg1 hI g a w hr;obtain⟨rd,s,wr,c1,c2,c3,c4⟩:=hI;rw [Nat.zero_add,List.length_cons,List.range'_succ,wpOpsIn_cons];obtain⟨hdN,hdf⟩:=Wj hN hom;unfold wpOpIn;rw [hom];have hw:Region.wanted o (yielded ops a.tmps)=true:=by unfold Region.wanted;rw [hg]
 simp only [hw,if_true];refine Qs hdf (c1 X _ _ g a w _ hr hdN (λ_ _=>rfl) c2 _ λb g' v w' hr'=>?_);exact y21 (P:=P) (X:=X) (Q:=Q) hN os2 (os1.length+1) _ _ _ g' _ w' (by rw [hops,List.drop_append];simp) hr' (y7u os2 _ _ _ (c4 b) λ_ _ _ h=>h)
end
end Go.Proofs.YtbpedjpoikmbjaaGreatDoor
namespace Go.Proofs.YtbpedjpoikmbjaaGreatDoor
open Go.RowKit Go.ChangeMaps Go.MapKept
set_option linter.unusedVariables false
def ptO:Option Nat->Value
 | none=>.pointer none
 | some b=>PB b
section
variable {κ τ:Type}
def EPb (f:Nat->Nat) (E:List (κ×τ)):List (κ×Option Nat):=E.mapIdx λi p=>(p.1,some (f i))
def OPb (t:TypeId) (C:τ->List V) (f:Nat->Nat) (E:List (κ×τ)):List AObj:=E.mapIdx λi p=>.box (some (f i)) t ((C p.2).map .dat)
def fx (f:Nat->Nat) (i b:Nat):Nat->Nat:=λj=>if j=i then b else f j
theorem y55 (f:Nat->Nat) (p:κ×τ) (E:List (κ×τ)):EPb f (p::E)=(p.1,some (f 0))::EPb (λi=>f (i+1)) E:=by
 unfold EPb;rw [List.mapIdx_cons]
theorem z6d:∀ (E:List (κ×τ)) (f:Nat->Nat) (k:κ),(lkG E k=none/\lkG (EPb f E) k=none/\(∀ v,ptG E k v=E++[(k,v)])/\∀ v,ptG (EPb f E) k v=EPb f E++[(k,v)]) ∨
  ∃ i a,E[i]?=some (k,a)/\lkG E k=some a/\lkG (EPb f E) k=some (some (f i))/\∀ v,ptG E k v=E.set i (k,v)
 | [],f,k=>.inl ⟨rfl,rfl,λ_=>rfl,λ_=>rfl⟩
 | p::E,f,k=>by
  by_cases h:p.1=k
  ·refine .inr ⟨0,p.2,by rw [← h];rfl,by rw [lkG,if_pos h],by rw [y55,lkG,if_pos h],λv=>by rw [ptG,if_pos h];rfl⟩
  ·rcases z6d E (λi=>f (i+1)) k with ⟨h1,h2,h3,h4⟩|⟨i,a,h1,h2,h3,h4⟩
   ·exact .inl ⟨by rw [lkG,if_neg h];exact h1,by rw [y55,lkG,if_neg h];exact h2,λv=>by rw [ptG,if_neg h,h3];rfl,λv=>by rw [y55,ptG,if_neg h,h4];rfl⟩
   ·exact .inr ⟨i+1,a,h1,by rw [lkG,if_neg h];exact h2,by rw [y55,lkG,if_neg h];exact h3,λv=>by rw [ptG,if_neg h,h4];rfl⟩
theorem Qc {f:Nat->Nat} {E:List (κ×τ)} {i:Nat}:(EPb f E)[i]?=E[i]?.map λp=>(p.1,some (f i)):=by
 unfold EPb;rw [List.getElem?_mapIdx]
theorem y52 {t:TypeId} {C:τ->List V} {f:Nat->Nat} {E:List (κ×τ)} {i:Nat}:(OPb t C f E)[i]?=E[i]?.map λp=>.box (some (f i)) t ((C p.2).map .dat):=by
 unfold OPb;rw [List.getElem?_mapIdx]
theorem y1v {t:TypeId} {C:τ->List V} {f:Nat->Nat} {E:List (κ×τ)} {i:Nat} {p:κ×τ} (h:E[i]?=some p):(OPb t C f E)[i]?=some (.box (some (f i)) t ((C p.2).map .dat)):=by
 rw [y52,h];rfl
theorem y54 {f:Nat->Nat} {E:List (κ×τ)} {i:Nat} {k:κ} {a:τ} (v:τ) (h:E[i]?=some (k,a)):EPb f (E.set i (k,v))=EPb f E:=by
 refine List.ext_getElem? λj=>?_;rw [Qc,Qc,List.getElem?_set]
 by_cases hj:i=j
 ·subst hj;have:i < E.length:=(List.getElem?_eq_some_iff.1 h).1;rw [h];simp [this]
 ·rw [if_neg hj]
theorem x8g {f:Nat->Nat} {E:List (κ×τ)} (b:Nat) (p:κ×τ):EPb (fx f E.length b) (E++[p])=EPb f E++[(p.1,some b)]:=by
 refine List.ext_getElem? λj=>?_;have hl:(EPb f E).length=E.length:=by unfold EPb;simp
 rw [Qc];rcases Nat.lt_trichotomy j E.length with h|h|h
 ·rw [List.getElem?_append_left h,List.getElem?_append_left (by omega),Qc];unfold fx;rw [if_neg (by omega)]
 ·subst h;rw [List.getElem?_append_right (Nat.le_refl _),List.getElem?_append_right (by omega),hl];simp [fx]
 ·rw [List.getElem?_append_right (by omega),List.getElem?_append_right (by omega),hl]
  have:∀ {α:Type} (x:α),[x][j-E.length]?=none:=λx=>by
   rw [List.getElem?_eq_none_iff];simp;omega
  rw [this,this];rfl
theorem w98 {t:TypeId} {C:τ->List V} {f:Nat->Nat} {E:List (κ×τ)}:∀ o,o∈OPb t C f E->clO o=true:=by
 intro o ho;obtain⟨i,hi⟩:=List.getElem?_of_mem ho;rw [y52] at hi;obtain⟨p,_,rfl⟩:=Option.map_eq_some_iff.1 hi;refine List.all_eq_true.2 λs hs=>?_;obtain⟨u,_,rfl⟩:=List.mem_map.1 hs;rfl
theorem vr {c:Nat} {t:TypeId} {C:τ->List V} {f:Nat->Nat} {E:List (κ×τ)}:Big (fam c 0 (OPb t C f E)):=y5h w98
theorem z1j {c:Nat} {l:List AObj} {k:Nat} {own:Own} (h:∀ j o,j≠k->l[j]?=some o->own (4*j+c+1000)=some (some o)):∀ p,p∈fam c 0 l->p.1≠4*k+c+1000->own p.1=some (some p.2):=λp hp hne=>by
 obtain⟨j,o,h1,rfl⟩:=Qa.1 hp;rw [Nat.zero_add] at hne ⊢;exact h j o (λe=>hne (by rw [e])) h1
theorem z7h {c k j:Nat} {lits:List (Nat×AObj)} {l:List AObj} {o:AObj} (hs:kk lits=true) (hR:Big (fam c 0 l)) (hj:l[j]?=some o) (hne:j≠k):ows (lits++(fam c 0 l).filter λp=>p.1 != 4*k+c+1000) (4*j+c+1000)=some (some o):=
 Zg (p:=(4*j+c+1000,o)) hs (hR.filter _) (List.mem_filter.2 ⟨ju hj,by simp;omega⟩)
theorem Zk {c j:Nat} {lits:List (Nat×AObj)} {l:List AObj} {o:AObj} (hs:kk lits=true) (hR:Big (fam c 0 l)) (hj:l[j]?=some o):ows (lits++fam c 0 l) (4*j+c+1000)=some (some o):=
 Zg (p:=(4*j+c+1000,o)) hs hR (ju hj)
theorem Qb {c:Nat} {l:List AObj} {own:Own} (h:∀ j o,l[j]?=some o->own (4*j+c+1000)=some (some o)):∀ p,p∈fam c 0 l->own p.1=some (some p.2):=λp hp=>by
 obtain⟨j,o,h1,rfl⟩:=Qa.1 hp;rw [Nat.zero_add];exact h j o h1
theorem uf {own:Own} {l R:List (Nat×AObj)}:subO own (l++R)↔subO own l/\∀ p,p∈R->own p.1=some (some p.2):=by
 rw [z0r,z0r];exact⟨λh=>⟨λp hp=>h p (List.mem_append_left _ hp),λp hp=>h p (List.mem_append_right _ hp)⟩,λh p hp=>(List.mem_append.1 hp).elim (h.1 p) (h.2 p)⟩
theorem Qg {l R:List (Nat×AObj)} (hs:kk l=true) (hR:Big R):subO (ows (l++R)) (l++R):=z0r.2 λ_ hp=>(ug (y3m hs hR)).2 hp
theorem Qq {P:Program} {X:Ctx} {Q:Exit->(Nat->Slot)->Own->Prop} {f:Nat->Slot} {c:Code} {l R:List (Nat×AObj)} (ids:List Nat) (hR:Big R) (hi:(ids.all λi=>Nat.blt i 1000 && !((l.map (·.1)).contains i))=true)
  (h:AWP P X c Q f (upl (ows (l++R)) (ids.map λi=>(i,none)))):AWP P X c Q f (ows (l++R)):=by
 have e:∀ ids:List Nat,(ids.all λi=>Nat.blt i 1000 && !((l.map (·.1)).contains i))=true->upl (ows (l++R)) (ids.map λi=>(i,none))=ows (l++R):=by
  intro ids
  induction ids with
  | nil=>intro _;rfl
  | cons i ids ih =>
   intro hi;rw [List.all_cons,Bool.and_eq_true,Bool.and_eq_true] at hi;funext k;simp only [List.map_cons,upl]
   by_cases hk:k=i
   ·subst hk;have e1:Nat.beq k k=true:=by simp
    simp only [e1,cond_true];exact (w2k hR hi.1.1 (by simpa using hi.1.2)).symm
   ·simp only [qz hk,cond_false];exact congrFun (ih hi.2) k
 rw [e ids hi] at h;exact h
theorem v0c {f:Nat->Nat} {E:List (κ×τ)} (g:κ×τ->τ):EPb f (E.map λp=>(p.1,g p))=EPb f E:=by
 refine List.ext_getElem? λj=>?_;rw [Qc,Qc,List.getElem?_map,Option.map_map];rfl
def vmpA (T:MT κ (Option Nat)) (size:Nat) (C:τ->List V) (l:List (κ×τ)):V:=
  ⟨λw M v=>∃ b es clock f,v = .map (some b)/\¬ M b/\w.heap[b]?=some (.map es clock)/\EnG T es clock (EPb f l)/\∀ i p,l[i]?=some p->xt w M (f i) 0 size [C p.2],true,
   λ{w w' M M' v} he ⟨b,es,clock,f,h1,h2,h3,h4,h5⟩=>⟨b,es,clock,f,h1,λhm=>h2 (he.sub b (vh h3) hm),(he.block b (vh h3) h2 ⟨_,h3,rfl⟩).trans h3,h4,λi p hp=>xt.keep (es:=[C p.2]) he (h5 i p hp)⟩,
   λ_ _ _ v ⟨b,_,_,_,h1,_⟩=>by rw [h1];rfl⟩
variable {P:Program} {f:Nat->Slot} {dst:Option Tmp} {ty:TypeId} {pos:String} {af:Array Edge} {gd:Option (Nat×Bool)} {t kt et:TypeId} {x y:Operand}
theorem x3n {T:MT κ (Option Nat)} {size:Nat} {C:τ->List V} {l:List (κ×τ)} {a:τ} (k:κ) (hT:TyG P t kt et T) (hc:T.ce=ptO) (hx:evS f x = .dat (vmpA T size C l)) (hy:evS f y = .dat (T.kV k)) (hk:T.ok k) (ha:lkG l k=some a) :
  Stp P ⟨dst,.lookup t x y false,ty,pos,af,gd⟩ f ⟨false,[],[],.dat (qn [C a] 0 0)⟩:=
 vt λX own g ac w h=>by
  have h1:=h x (by simp [Op.operands]);rw [hx] at h1;have h3:=h y (by simp [Op.operands]);rw [hy] at h3;have h3:=hT.kin _ _ _ _ h3;obtain⟨b,es,clock,fb,h2,_,q2,q3,q4⟩:=h1;have:=x0p hT false q2 q3 hk;simp only [Bool.false_eq_true,if_false] at this;rcases z6d l fb k with ⟨g1,_⟩|⟨i,a',g1,g2,g3,_⟩
  ·rw [g1] at ha;cases ha
  ·rw [g2] at ha;cases ha;rw [g3,hc] at this;exact⟨ptO ((some (some (fb i))).getD T.z),by simp only [execOp,h2,h3,Sem.run_bind,this,Result.andThen_ok,Sem.run_pure],fb i,0,size,by show PB (fb i)=_;simp,q4 i _ g1⟩
theorem y2g {e t':TypeId} {o:Option Nat} (ht:P.underlying t=some (.pointer e)) (hx:evS f x = .dat (vval (ptO o))):Stp P ⟨dst,.binOp .eql t x (.const (.pointer none)) t',ty,pos,af,gd⟩ f ⟨false,[],[],.dat (zt o.isNone)⟩:=by
 cases o with
 | none=>exact w0d ht hx
 | some b =>
  refine vt λX own g a w h=>?_;have h2:=ja (h x (by simp [Op.operands])) hx;have hp:P.underlying t=some (.pointer (P.pointee t)):=by simp [Program.pointee,ht]
  refine⟨.bool false,?_,rfl⟩;have hc:a.eval (.const (.pointer none)) = .pointer none:=rfl;simp only [execOp,h2,hc,Sem.run_bind,ptO];simp [eqGuard,run_eql_pointer_nil w t _ hp]
theorem w7q {T:MT κ (Option Nat)} {t:TypeId} {size c:Nat} {C:τ->List V} {fb:Nat->Nat} {l:List (κ×τ)} {b:Nat} {es:Array MapEntry} {cl:Nat} {s:Slot} (hs:s = .dat (vmpX b es cl)) (hE:EnG T es cl (EPb fb l)) (hz:∀ x,(C x).length=size) (g:Gh) (w:World) (M M':Blks) (v:Value) (he:Ext M M' w w)
  (hR:∀ p,p∈fam c 0 (OPb t C fb l)->RepO g w M p.1 p.2/\∀ b,obk g p.1 p.2=some b->¬ M' b) (hv:RepS g w M s v):(vmpA T size C l).p w M' v:=by
 subst hs;obtain⟨h1,h2,h3⟩:(vmpX b es cl).p w M' v:=(vmpX b es cl).keep he hv;refine⟨b,es,cl,fb,h1,h2,h3,hE,λi p hp=>?_⟩;obtain⟨⟨b',lv,q1,q0,q2,q3,q4⟩,hM⟩:=hR _ (ju (y1v hp));have hb:=q0 (fb i) rfl;rw [← hb] at q1 q2;refine⟨hM _ q1,lv.toArray,t,(0,0),q2,λel hel=>by rw [List.mem_singleton.1 hel];exact hz _,λk cc el u hk hc=>?_⟩;rcases k with _|k
 ·cases hk;obtain⟨x,x1,x2,x3⟩:=q4 cc (.dat u) (by rw [List.getElem?_map,hc];rfl);exact⟨x,by simpa using x1,u.keep he x2,x3⟩
 ·simp at hk
end
end Go.Proofs.YtbpedjpoikmbjaaGreatDoor
namespace Go.Proofs.YtbpedjpoikmbjaaGreatDoor
set_option linter.unusedVariables false
noncomputable def vg (a:qu):qu:=if (decide (a.last_.State=2)) || (decide (a.last_.State=3)) then ⟨a.last_,a.last_⟩ else a
noncomputable def z7t (E:List (zx×qu)):Option (List (zx×qu)):=some (E.map λp=>(p.1,vg p.2))
noncomputable def z7u (v1:zw) (x:zj) (E:List (zx×qu)) (a:qu):Option (List (zx×qu) ⊕ List (zx×qu)):=
 (z9u v1 a.last_ x).bind λr=>some (.inl (ptG E ⟨x.App,x.Product⟩ ⟨a.on_,r.1⟩))
noncomputable def z1v (v1:zw) (fr:Int) (x:zj) (E:List (zx×qu)):Option (List (zx×qu) ⊕ List (zx×qu)):=
 (lkG E ⟨x.App,x.Product⟩).bind λa=>(z04 a.last_.State).bind λb=>if b && decide (fr < x.At) then z7u v1 x E ⟨a.last_,a.last_⟩ else z7u v1 x E a
noncomputable def z1u (v1:zw) (fr to_:Int) (x:zj) (E:List (zx×qu)):Option (List (zx×qu) ⊕ List (zx×qu)):=
 if decide (to_<=x.At) then (z7t E).bind λr=>some (.inr r) else
 if x.App.length<=1000000000/\x.Product.length<=1000000000 then
  (if (lkG E ⟨x.App,x.Product⟩).isNone then (y80).bind λz=>z1v v1 fr x (E++[(⟨x.App,x.Product⟩,⟨⟨0,[],0,0⟩,z⟩)]) else z1v v1 fr x E) else none
noncomputable def z9w (v1:zw) (v2:List zj) (v3:Int):Option (List (zx×qu)):=
 if v2.length<=1000000000 then forL (λ_ x E=>z1u v1 (wr (v3*2592000000)) (wr ((wr (v3+1))*2592000000)) x E) z7t 0 v2 [] else none
noncomputable def allP {α ρ:Type} (m:List α->Option ρ) (l:List α):Option ρ:=open Classical in if h:∃ r,∀ p:List α,p.Perm l->m p=some r then some h.choose else none
theorem y5y {α ρ:Type} {m:List α->Option ρ} {l:List α} {r:ρ} (h:allP m l=some r):∀ p:List α,p.Perm l->m p=some r:=by
 unfold allP at h;split at h
 ·rename_i hx;cases h;exact hx.choose_spec
 ·cases h
theorem x1q {α ρ:Type} {m:List α->Option ρ} {l:List α} {r:ρ} (h:∀ p:List α,p.Perm l->m p=some r):allP m l=some r:=by
 have hx:∃ r,∀ p:List α,p.Perm l->m p=some r:=⟨r,h⟩
 unfold allP;rw [dif_pos hx];have h1:=hx.choose_spec l (List.Perm.refl _);rw [h l (List.Perm.refl _)] at h1;exact h1.symm
noncomputable def srtA (p1:zx->zx->Option Int) (ks:List zx):Option (List zx):=allP (λp=>(y3v p p1).bind λr=>if r.length=p.length then some r else none) ks
noncomputable def srtS (ks:List Bs):Option (List Bs):=allP (λp=>Wn p) ks
noncomputable def sumC (ls:List qj) (c:Int):Option Int:=forL (λ_ x s=>some (.inl (wr (s+x.Cents)))) some 0 ls c
noncomputable def z1p (ls:List qj) (ow:Bs) (O:List (Bs×zu)):Option (List (Bs×zu) ⊕ List zu):=
 (lkG O ow).bind λb=>if b.Lines.length+ls.length<=1000000000 then (sumC ls b.Cents).bind λc=>some (.inl (ptG O ow ⟨b.Owner,b.Month,b.Lines++ls,c⟩)) else none
noncomputable def z33 (v1:zw) (all:List (zx×qu)) (v2:List zn) (v4:List (zz×Int)) (v5:Int) (k:zx) (O:List (Bs×zu)):Option (List (Bs×zu) ⊕ List zu):=
 if k.app_.length<=1000000000/\k.product_.length<=1000000000 then (lkG all k).bind λa=>(z6a v4 k v5).bind λn=>(z06 a v1 k v5 n).bind λls =>
  if decide ((ls.length:Int)=0) then some (.inl O) else (z05 v2 k.app_).bind λi=>(at? v2 i.1).bind λap =>
   if ap.Owner.length<=1000000000 then (if (lkG O ap.Owner).isNone then z1p ls ap.Owner (O++[(ap.Owner,⟨ap.Owner,v5,[],0⟩)]) else z1p ls ap.Owner O) else none
 else none
noncomputable def z7q (O:List (Bs×zu)) (o:Bs) (out:List zu):Option (List zu ⊕ List zu):=
 (lkG O o).bind λb=>if o.length<=1000000000/\out.length+1<=1000000000 then some (.inl (out++[b])) else none
noncomputable def z32 (O:List (Bs×zu)):Option (List zu):=
 if O.length<=1000000000 then (srtS (O.map (·.1))).bind λos=>if os.length<=1000000000 then forL (λ_ o out=>z7q O o out) some 0 os [] else none else none
noncomputable def z5q (v1:zw) (v2:List zn) (v3:List zj) (v4:List (zz×Int)) (v5:Int):Option (List zu):=
 (z9w v1 v3 v5).bind λall=>if all.length<=1000000000 then (srtA Wp (all.map (·.1))).bind λkeys=>if keys.length<=1000000000 then forL (λ_ k O=>z33 v1 all v2 v4 v5 k O) z32 0 keys [] else none else none
noncomputable def z7p (ow:Bs) (mo:Int) (x:qj) (O:List (Bs×zu)):Option (List (Bs×zu) ⊕ List (Bs×zu)):=
 if ow.length<=1000000000/\((lkG O ow).getD ⟨[],0,[],0⟩).Lines.length+1<=1000000000 then
  some (.inl (ptG O ow ⟨ow,mo,((lkG O ow).getD ⟨[],0,[],0⟩).Lines++[x],wr (((lkG O ow).getD ⟨[],0,[],0⟩).Cents+x.Cents)⟩)) else none
noncomputable def z3z (v1:zw) (v3:List zj) (v4:List zz) (v5:Int) (a:zn) (p:yl) (O:List (Bs×zu)):Option (List (Bs×zu) ⊕ List (Bs×zu)):=
 (z2y v1 v3 v4 a.Key p.Key v5).bind λls=>if ls.length<=1000000000 then (forL (λ_ x O=>z7p a.Owner v5 x O) some 0 ls O).bind λO'=>some (.inl O') else none
noncomputable def z30 (v1:zw) (v3:List zj) (v4:List zz) (v5:Int) (a:zn) (O:List (Bs×zu)):Option (List (Bs×zu) ⊕ List zu):=
 if v1.Products.length<=1000000000 then (forL (λ_ p O=>z3z v1 v3 v4 v5 a p O) some 0 v1.Products O).bind λO'=>some (.inl O') else none
noncomputable def z1o (O:List (Bs×zu)):Option (List zu):=
 if O.length+1<=1000000000 then allP (λp=>(z9n p z22).bind λr=>if r.length=p.length then some r else none) (O.map (·.2)) else none
noncomputable def z23 (v1:zw) (v2:List zn) (v3:List zj) (v4:List zz) (v5:Int):Option (List zu):=
 if v2.length<=1000000000 then forL (λ_ a O=>z30 v1 v3 v4 v5 a O) z1o 0 v2 [] else none
end Go.Proofs.YtbpedjpoikmbjaaGreatDoor
