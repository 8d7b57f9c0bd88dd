/- The abstract machine: a region that draws its order and fills a map literal: the insertions of unlike keys have no order among them. -/
import Derived.Test.YtndabcepiekebaaGreatDoorMp
namespace Go.Proofs.YtndabcepiekebaaGreatDoor
open Go.RowKit Go.ChangeMaps Go.MapKept
set_option linter.unusedVariables false
section
variable {κ τ:Type}
def RP (M:MT κ τ) (l:List (κ×τ)):Obj→Prop:=fun o=>∃ l',l'.Perm l∧w2g M l' o
theorem w9b {M:MT κ τ} {l l':List (κ×τ)} (h:l.Perm l'):RP M l=RP M l':=by
 funext o
 exact propext ⟨fun ⟨q,h1,h2⟩=>⟨q,h1.trans h,h2⟩,fun ⟨q,h1,h2⟩=>⟨q,h1.trans h.symm,h2⟩⟩
def uw (M:MT κ τ) (fid:Nat) (l:List (κ×τ)) (p:κ×τ):Tr:=⟨false,[(fid,some (some (.opq none (RP M l))))],[(fid,some (some (.opq none (RP M (l++[p])))))],.any⟩
def kvD (kv:Nat→Option (κ×τ)) (D:Nat→Bool):Nat→List (κ×τ)
 | 0=>[]
 | i+1=>kvD kv D i++(if D i=true then (kv i).toList else [])
variable {kv kv':Nat→Option (κ×τ)} {D D':Nat→Bool}
theorem x3k:∀ {i:Nat},(∀ m,m < i→kv' m=kv m)→kvD kv' D i=kvD kv D i
 | 0,_=>rfl
 | i+1,h=>by rw [kvD,kvD,x3k fun m hm=>h m (by omega),h i (by omega)]
theorem x3l {n:Nat}:∀ {m:Nat},m≤n→(∀ j,j < n→D j=true)→kvD kv D m=kvD kv (fun _=>true) m
 | 0,_,_=>rfl
 | m+1,hm,h=>by rw [kvD,kvD,x3l (m:=m) (by omega) h,h m (by omega)]
theorem w2s {n i : Nat} (hin : i ≤ n) (h1 : ∀ j, j < i → kv j ≠ none → D j = true) (h2 : ∀ j, i ≤ j → j < n → kv j ≠ none → D j = false) : kvD kv D n = kvD kv (fun _ => true) i := by
  induction n with
  | zero => obtain rfl : i = 0 := by omega
            rfl
  | succ n ih =>
    rcases Nat.lt_or_ge n i with hl | hl
    · obtain rfl : i = n + 1 := by omega
      have : ∀ m, m ≤ n + 1 → kvD kv D m = kvD kv (fun _ => true) m := by
        intro m
        induction m with
        | zero => intro _; rfl
        | succ m ihm =>
          intro hm
          rw [kvD, kvD, ihm (by omega)]
          congr 1
          by_cases hk : kv m = none
          · rw [hk]; simp
          · rw [h1 m (by omega) hk]
      exact this _ (Nat.le_refl _)
    · rw [kvD, ih hl fun j hj hjn => h2 j hj (by omega)]
      by_cases hk : kv n = none
      · rw [hk]; simp
      · rw [h2 n hl (by omega) hk]; simp
theorem x3g {i:Nat} (hi:kv i=none) (h:∀ j,j≠i→D' j=D j):∀ {n:Nat},kvD kv D' n=kvD kv D n
 | 0=>rfl
 | n+1=>by
  rw [kvD,kvD,x3g hi h]
  congr 1
  by_cases hn:n=i
  ·subst hn; rw [hi]; simp
  ·rw [h n hn]
theorem y4h:∀ {n:Nat},kvD kv D n≠[]→∃ j,j < n∧D j=true∧kv j≠none
 | 0,h=>absurd rfl h
 | n+1,h=>by
  by_cases h0:kvD kv D n=[]
  ·rw [kvD,h0,List.nil_append] at h
   by_cases hD:D n=true
   ·rw [if_pos hD] at h
    exact ⟨n,by omega,hD,fun hk=>h (by rw [hk]; rfl)⟩
   ·rw [if_neg hD] at h; exact absurd rfl h
  ·obtain ⟨j,h1,h2⟩:=y4h h0
   exact ⟨j,by omega,h2⟩
theorem x3j {j:Nat} {p:κ×τ} (hD:D j=true) (hk:kv j=some p):∀ {n:Nat},j < n→kvD kv D n≠[]
 | 0,h=>by omega
 | n+1,h=>by
  rw [kvD]
  by_cases hn:n=j
  ·subst hn; rw [if_pos hD,hk]; simp
  ·have:=x3j hD hk (n:=n) (by omega)
   simp [this]
theorem x3h:∀ {n:Nat},(∀ j,j < n→kv j=none)→kvD kv D n=[]
 | 0,_=>rfl
 | n+1,h=>by rw [kvD,x3h fun j hj=>h j (by omega),h n (by omega)]; simp
theorem w2t {n i:Nat} {p:κ×τ} (hin:i < n) (hk:kv i=some p) (hD:D i=false) (hD':∀ j,D' j=(D j || decide (j=i))):(kvD kv D' n).Perm (kvD kv D n++[p]):=by
 induction n with
 | zero=>omega
 | succ n ih =>
  rw [kvD,kvD]
  by_cases hni:n=i
  ·subst hni
   have e:kvD kv D' n=kvD kv D n:=by
    have:∀ m,m≤n→kvD kv D' m=kvD kv D m:=by
     intro m
     induction m with
     | zero=>intro _; rfl
     | succ m ihm =>
      intro hm
      have:D' m=D m:=by rw [hD' m]; simp; intro h; omega
      rw [kvD,kvD,ihm (by omega),this]
    exact this n (Nat.le_refl _)
   rw [e,hD,hD' n]
   simp [hk]
  ·have e1:D' n=D n:=by rw [hD' n]; simp [hni]
   rw [e1]
   have h1:=ih (by omega)
   refine (h1.append_right _).trans ?_
   rw [List.append_assoc,List.append_assoc]
   exact List.Perm.append_left _ List.perm_append_comm
theorem x3i {r:κ×τ}:∀ {n:Nat},r∈kvD kv D n→∃ j,j < n∧D j=true∧kv j=some r
 | 0,h=>by cases h
 | n+1,h=>by
  rw [kvD,List.mem_append] at h
  rcases h with h | h
  ·obtain ⟨j,h1,h2⟩:=x3i h
   exact ⟨j,by omega,h2⟩
  ·by_cases hD:D n=true
   ·rw [if_pos hD] at h
    exact ⟨n,by omega,hD,by simpa using h⟩
   ·rw [if_neg hD] at h; cases h
theorem y7t:∀ {n:Nat},((kvD kv (fun _=>true) n).map (·.1)).Nodup→∀ i j p r,i < j→j < n→kv i=some p→kv j=some r→p.1≠r.1
 | 0,_,i,j,p,r,_,hj,_,_=>by omega
 | n+1,h,i,j,p,r,hij,hj,hi,hr=>by
  rw [kvD,if_pos rfl,List.map_append,List.nodup_append] at h
  by_cases hjn:j=n
  ·subst hjn
   have hp:p∈kvD kv (fun _=>true) j:=by
    have:∀ m,i < m→m≤j→p∈kvD kv (fun _=>true) m:=by
     intro m
     induction m with
     | zero=>intro h; omega
     | succ m ihm =>
      intro h1 h2
      rw [kvD,if_pos rfl,List.mem_append]
      by_cases hm:m=i
      ·subst hm; right; rw [hi]; simp
      ·exact .inl (ihm (by omega) (by omega))
    exact this j hij (Nat.le_refl _)
   exact h.2.2 p.1 (List.mem_map.2 ⟨p,hp,rfl⟩) r.1 (by rw [hr]; simp)
  ·exact y7t h.1 i j p r hij (by omega) hi hr
theorem w2r {n i:Nat} {p:κ×τ} (hnd:((kvD kv (fun _=>true) n).map (·.1)).Nodup) (hin:i < n) (hk:kv i=some p) (hD:D i=false):∀ r,r∈kvD kv D n→r.1≠p.1:=fun r hr=>by
 obtain ⟨j,h1,h2,h3⟩:=x3i hr
 rcases Nat.lt_trichotomy i j with h | h | h
 ·exact (y7t hnd i j p r h h1 hk h3).symm
 ·subst h; rw [hD] at h2; cases h2
 ·exact y7t hnd j i r p h hin h3 hk
theorem w60:∀ (i:Nat),kv i≠none→∃ i0,i0≤i∧kv i0≠none∧∀ j,j < i0→kv j=none:=by
 intro i
 induction i using Nat.strongRecOn with
 | ind i ih =>
  intro hi
  by_cases h:∃ j,j < i∧kv j≠none
  ·obtain ⟨j,h1,h2⟩:=h
   obtain ⟨i0,k1,k2,k3⟩:=ih j h1 h2
   exact ⟨i0,by omega,k2,k3⟩
  ·exact ⟨i,Nat.le_refl _,hi,fun j hj=>by
    cases hk:kv j with
    | none=>rfl
    | some p=>exact absurd ⟨j,hj,by rw [hk]; simp⟩ h⟩
theorem y8b:∀ {i:Nat} {lg:List ((List Nat×List Nat)×Option (κ×τ))} {E:Nat→List Nat×List Nat},lg.length=i→(∀ j,j < i→lg.reverse[j]?=some (E j,kv j))→lg.reverse.filterMap (·.2)=kvD kv (fun _=>true) i
 | 0,lg,E,hl,_=>by rw [List.length_eq_zero_iff.1 hl]; rfl
 | i+1,[],E,hl,_=>by simp at hl
 | i+1,e::lg,E,hl,h=>by
  simp only [List.length_cons,Nat.add_right_cancel_iff] at hl
  rw [List.reverse_cons] at h ⊢
  have h1:∀ j,j < i→lg.reverse[j]?=some (E j,kv j):=fun j hj=>by
   have:=h j (by omega)
   rwa [List.getElem?_append_left (by simp; omega)] at this
  have h2:=h i (by omega)
  rw [List.getElem?_append_right (by simp [hl])] at h2
  simp [hl] at h2
  rw [List.filterMap_append,y8b hl h1,kvD,if_pos rfl]
  congr 1
  rw [h2]
  cases kv i <;> simp
end
theorem y7z {β:Type} {W:Nat→List (Nat×β)} {D D':Nat→Bool} {f:Nat→β} {i k:Nat} (h:∀ j,j≠i→D' j=D j) (hk:k ∉ keys (W i)):∀ {n:Nat},memD W D' f n k=memD W D f n k
 | 0=>rfl
 | n+1=>by
  simp only [memD]
  by_cases hn:n=i
  ·subst hn
   have:=y7z (W:=W) (f:=f) h hk (n:=n)
   by_cases h1:D' n=true <;> by_cases h2:D n=true <;> simp only [h1,h2,if_true,if_false,Bool.false_eq_true] <;> (try rw [jn _ _ _ hk]) <;> (try rw [jn _ _ _ hk]) <;> exact this
  ·rw [h n hn]
   have:=y7z (W:=W) (f:=f) h hk (n:=n)
   split
   ·by_cases hkn:k∈keys (W n)
    ·exact z3r _ _ _ _ hkn
    ·rw [jn _ _ _ hkn,jn _ _ _ hkn]; exact this
   ·exact this
section
variable {κ τ:Type} {M:MT κ τ} {fid:Nat}
noncomputable def moF (M:MT κ τ) (fid:Nat) (kv:Nat→Option (κ×τ)) (T:Nat→Tr) (own:Own) (n:Nat) (D:Nat→Bool):Own:=
 open Classical in fun k=>if k=fid∧kvD kv D n≠[] then some (some (.opq none (RP M (kvD kv D n)))) else memD (Wo T) D own n k
theorem w2b {kv:Nat→Option (κ×τ)} {T:Nat→Tr} {own:Own} {n:Nat} {D:Nat→Bool} (h:∀ j,j < n→D j=true):moF M fid kv T own n D=moF M fid kv T own n (fun _=>true):=by
 funext k
 unfold moF
 rw [x3l (Nat.le_refl _) h,y3z h]
theorem x01 {kv:Nat→Option (κ×τ)} {T:Nat→Tr} {own:Own} {ops:Array Oper} (hK:∀ i o p,ops[i]?=some o→kv i=some p→T i=uw M fid (kvD kv (fun _=>true) i) p)
  (hW:∀ j i,j < ops.size→i < ops.size→kv j=none→fid∈keys (T j).wr→kv i≠none→j < i):∀ i,i≤ops.size→kvD kv (fun _=>true) i≠[]→memD (Wo T) (fun _=>true) own i fid=some (some (.opq none (RP M (kvD kv (fun _=>true) i)))):=by
 intro i
 induction i with
 | zero=>intro _ h; exact absurd rfl h
 | succ i ih =>
  intro hi h
  simp only [memD,if_true]
  cases hk:kv i with
  | some p =>
   have ht:=hK i _ p (Array.getElem?_eq_getElem (by omega)) hk
   have e:Wo T i=[(fid,some (some (.opq none (RP M (kvD kv (fun _=>true) i++[p])))))]:=by unfold Wo; rw [ht]; rfl
   rw [e,jp]
   rw [kvD,if_pos rfl,hk]
   rfl
  | none =>
   have e:kvD kv (fun _=>true) (i+1)=kvD kv (fun _=>true) i:=by rw [kvD,hk]; simp
   rw [e] at h ⊢
   obtain ⟨j,h1,_,h2⟩:=y4h h
   have hnw:fid ∉ keys (Wo T i):=fun hw=>by
    have:=hW i j (by omega) (by omega) hk hw h2
    omega
   rw [jn _ _ _ hnw]
   exact ih (by omega) h
variable {P:Program} {ops:Array Oper} {X:Ctx}
section
variable {Q:Exit→Act→World→Prop}
theorem w1b (T:Nat→Tr) (kv:Nat→Option (κ×τ)) (f:Nat→Slot) (own:Own) (hE:z0s ops=true) (hN:Zn X.N ops=true)
  (hK:∀ i o p,ops[i]?=some o→kv i=some p→o.guard=none∧o.dst=none∧T i=uw M fid (kvD kv (fun _=>true) i) p∧∀ l,(∀ r,r∈l→r.1≠p.1)→Stp P o (memD (Wf ops T) (fun _=>true) f i) (uw M fid l p))
  (hnd:((kvD kv (fun _=>true) ops.size).map (·.1)).Nodup)
  (hW:∀ j i,j < ops.size→i < ops.size→kv j=none→fid∈keys (T j).wr→kv i≠none→j < i)
  (hT:∀ i o,ops[i]?=some o→y1m P ops o (memD (Wf ops T) (fun _=>true) f i) (memD (Wo T) (fun _=>true) own i) (T i))
  (hC:∀ i j,i < j→j < ops.size→vm ops (fun i=>keys (T i).rd) (fun i=>keys (T i).wr) i j=true→i∈kq ops ops.size j∨(kv i≠none∧kv j≠none))
  (hQ:∀ g a w,Rel X (memD (Wf ops T) (fun _=>true) f ops.size) (moF M fid kv T own ops.size (fun _=>true)) g a w→Q .normal a w) :
  ∀ (fuel:Nat) (listed:Array Bool) (g:Gh) (a:Act) (w:World),listed.size=ops.size→cnt (fun i=>listed.getD i false) ops.size=fuel →
   (∀ j o,ops[j]?=some o→listed.getD j false=true→∀ e∈o.after,Region.binds .any e=true→listed.getD e.on false=true) →
   Rel X (memD (Wf ops T) (fun i=>listed.getD i false) f ops.size) (moF M fid kv T own ops.size (fun i=>listed.getD i false)) g a w→wpAnyIn (FR X.R) 0 P .any ops Q fuel listed a w:=by
 have hget:∀ (listed:Array Bool) i,listed.size=ops.size→i < ops.size→listed.getD i true=listed.getD i false:=by
  intro listed i hs hi
  rw [Array.getD_eq_getD_getElem?,Array.getD_eq_getD_getElem?,Array.getElem?_eq_getElem (by omega)]
  rfl
 intro fuel
 induction fuel with
 | zero =>
  intro listed g a w hs hc hd hr
  have hall:=x6e hc
  refine ⟨?_,?_⟩
  ·refine List.eq_nil_iff_forall_not_mem.2 fun i hi => ?_
   obtain ⟨h1,o,ho,_⟩:=mem_ready.1 hi
   have hlt:i < ops.size:=(Array.getElem?_eq_some_iff.1 ho).1
   rw [hget listed i hs hlt,hall i hlt] at h1
   cases h1
  ·rw [y3z hall,w2b hall] at hr
   exact hQ g a w hr
 | succ fuel ih =>
  intro listed g a w hs hc hd hr
  refine ⟨fun hnil => ?_,fun i hi => ?_⟩
  ·exfalso
   by_cases hex:∃ i,i < ops.size∧listed.getD i false=false
   ·obtain ⟨i,h1,h2⟩:=hex
    obtain ⟨m,h3,h4,h5⟩:=x3d (D:=fun i=>listed.getD i false) ops.size i h1 h2
    have hm:m∈Region.ready .any ops listed:=by
     refine mem_ready.2 ⟨by rw [hget listed m hs h3]; exact h4,ops[m],Array.getElem?_eq_getElem h3,fun e he hb => ?_⟩
     unfold z0s at hE
     rw [List.all_eq_true] at hE
     have h6:=hE m (List.mem_range.2 h3)
     rw [Array.getElem?_eq_getElem h3] at h6
     rw [List.all_eq_true] at h6
     have h7:=h6 e (Array.mem_toList_iff.2 he)
     rw [hb] at h7
     have h8:e.on < m:=by simpa [Nat.blt_eq] using h7
     exact h5 e.on h8
    rw [hnil] at hm
    cases hm
   ·have hz:∀ i,i < ops.size→listed.getD i false=true:=fun i hi=>by
     cases h:listed.getD i false
     ·exact absurd ⟨i,hi,h⟩ hex
     ·rfl
    have:∀ n,n≤ops.size→cnt (fun i=>listed.getD i false) n=0:=by
     intro n
     induction n with
     | zero=>intro _; rfl
     | succ n ihn=>intro hn; simp only [cnt,ihn (by omega),hz n (by omega)]; rfl
    rw [this ops.size (Nat.le_refl _)] at hc
    omega
  ·obtain ⟨h1,o,ho,hall⟩:=mem_ready.1 hi
   have hlt:i < ops.size:=(Array.getElem?_eq_some_iff.1 ho).1
   rw [hget listed i hs hlt] at h1
   obtain ⟨hgd,hrun,hskip,hsub⟩:=hT i o ho
   -- who is ahead of i is done; who is behind is not
   have hfore:∀ j,i∈kq ops ops.size j→listed.getD j false=false:=fun j hj=>by
    cases h:listed.getD j false
    ·rfl
    ·have:=y6c (D:=fun i=>listed.getD i false) hd ops.size j i hj h
     simp only [h1] at this
     cases this
   have hback:∀ j,j∈kq ops ops.size i→listed.getD j false=true:=by
    intro j hj
    have hD2:∀ j' o',ops[j']?=some o'→(fun x=>listed.getD x false || decide (x=i)) j'=true→∀ e∈o'.after,Region.binds .any e=true→(fun x=>listed.getD x false || decide (x=i)) e.on=true:=by
     intro j' o' ho' hj' e he hb
     by_cases hji:j'=i
     ·subst hji
      rw [ho] at ho'
      cases ho'
      simp only [hall e he hb,Bool.true_or]
     ·have:listed.getD j' false=true:=by simpa [hji] using hj'
      simp only [hd j' o' ho' this e he hb,Bool.true_or]
    have h2:=y6c hD2 ops.size i j hj (by simp)
    by_cases hji:j=i
    ·subst hji
     have:=hfore j hj
     exfalso
     have hlt2:∀ n q,q∈kq ops n j→q < j:=by
      have hE':=hE
      unfold z0s at hE'
      rw [List.all_eq_true] at hE'
      have key:∀ n m q,m < ops.size→q∈kq ops n m→q < m:=by
       intro n
       induction n with
       | zero=>intro m q _ h; cases h
       | succ n ihn =>
        intro m q hm h
        unfold kq at h
        rw [Array.getElem?_eq_getElem hm] at h
        simp only [List.mem_flatMap,Array.mem_toList_iff] at h
        obtain ⟨e,he,hq⟩:=h
        by_cases hb:Region.binds .any e=true
        ·rw [if_pos hb] at hq
         have h6:=hE' m (List.mem_range.2 hm)
         rw [Array.getElem?_eq_getElem hm] at h6
         rw [List.all_eq_true] at h6
         have h7:=h6 e (Array.mem_toList_iff.2 he)
         rw [hb] at h7
         have h8:e.on < m:=by simpa [Nat.blt_eq] using h7
         rcases List.mem_cons.1 hq with rfl | hq
         ·exact h8
         ·have:=ihn e.on q (by omega) hq
          omega
        ·rw [if_neg hb] at hq; cases hq
      exact fun n q hq=>key n j q hlt hq
     have:=hlt2 _ _ hj
     omega
    ·simpa [hji] using h2
   have hcl1:∀ j,j < i→(kv j=none∨kv i=none)→vm ops (fun i=>keys (T i).rd) (fun i=>keys (T i).wr) j i=true→listed.getD j false=true:=fun j hj hf hc=>(hC j i hj hlt hc).elim (hback j) (fun h=>absurd h (fun h=>hf.elim h.1 h.2))
   have hcl2:∀ j,i < j→j < ops.size→(kv j=none∨kv i=none)→vm ops (fun i=>keys (T i).rd) (fun i=>keys (T i).wr) i j=true→listed.getD j false=false:=fun j hj hjn hf hc=>(hC i j hj hjn hc).elim (hfore j) (fun h=>absurd h (fun h=>hf.elim h.2 h.1))
   have hself:∀ j,i≤j→j < ops.size→(kv j=none∨kv i=none)→vm ops (fun i=>keys (T i).rd) (fun i=>keys (T i).wr) i j=true→listed.getD j false=false:=fun j hj hjn hf hc=>by
    rcases Nat.lt_or_ge i j with h | h
    ·exact hcl2 j h hjn hf hc
    ·obtain rfl:i=j:=by omega
     exact h1
   have hkd:∀ j d,j < ops.size→d∈keys (Wf ops T j)→kv j=none:=fun j d hjn hd=>by
    cases hq:kv j with
    | none=>rfl
    | some p =>
     have h2:=(hK j _ p (Array.getElem?_eq_getElem hjn) hq).2.1
     unfold Wf at hd
     rw [Array.getElem?_eq_getElem hjn] at hd
     simp only [Option.bind_some,h2] at hd
     cases hd
   have hkw:∀ j p,j < ops.size→kv j=some p→keys (T j).wr=[fid]∧keys (T j).rd=[fid]:=fun j p hjn hq=>by
    rw [(hK j _ p (Array.getElem?_eq_getElem hjn) hq).2.2.1]; exact ⟨rfl,rfl⟩
   have hkf:∀ j d,d∈keys (Wf ops T j)→d∈z0t ops j:=by
    intro j d hd
    unfold Wf at hd
    unfold z0t
    cases hq:(ops[j]?).bind (·.dst) with
    | none=>rw [hq] at hd; cases hd
    | some d'=>rw [hq] at hd; simpa [keys] using hd
   have hlooks:looks ops i=o.looksAt ops:=by simp [looks,ho]
   have hf:∀ t,t∈looks ops i→memD (Wf ops T) (fun i=>listed.getD i false) f ops.size t=memD (Wf ops T) (fun _=>true) f i t:=fun t ht =>
    z8m (Nat.le_of_lt hlt)
     (fun j hj hk=>hcl1 j hj (.inl (hkd j t (by omega) hk)) (by unfold vm; rw [kw (hkf j t hk) ht]; simp))
     (fun j hj hjn hk=>hself j hj hjn (.inl (hkd j t hjn hk)) (by unfold vm; rw [kw (hkf j t hk) ht]; simp))
   have hrdr:∀ q,q∈keys (T i).rd→(kv i=none∨q≠fid)→memD (Wo T) (fun i=>listed.getD i false) own ops.size q=memD (Wo T) (fun _=>true) own i q:=fun q hq hf =>
    z8m (Nat.le_of_lt hlt)
     (fun j hj hk=>by
      refine hcl1 j hj ?_ (by unfold vm; rw [kw (a:=keys (T j).wr) hk hq]; simp)
      rcases hf with hf | hf
      ·exact .inr hf
      ·cases hqj:kv j with
       | none=>exact .inl rfl
       | some p =>
        have hk':q∈keys (T j).wr:=hk
        rw [(hkw j p (by omega) hqj).1] at hk'
        exact absurd (by simpa using hk') hf)
     (fun j hj hjn hk=>by
      refine hself j hj hjn ?_ (by unfold vm; rw [kw (b:=keys (T j).wr) hq hk]; simp)
      rcases hf with hf | hf
      ·exact .inr hf
      ·cases hqj:kv j with
       | none=>exact .inl rfl
       | some p =>
        have hk':q∈keys (T j).wr:=hk
        rw [(hkw j p hjn hqj).1] at hk'
        exact absurd (by simpa using hk') hf)
   have htx:=x01 (M:=M) (fid:=fid) (kv:=kv) (T:=T) (own:=own) (ops:=ops) (fun i o p ho hp=>(hK i o p ho hp).2.2.1) hW
   have ho':∀ q,kv i=none→q∈keys (T i).rd→moF M fid kv T own ops.size (fun i=>listed.getD i false) q=memD (Wo T) (fun _=>true) own i q:=fun q hni hq=>by
    by_cases hqf:q=fid
    ·have hfl:∀ j,j < ops.size→kv j≠none→(j < i→listed.getD j false=true)∧(i < j→listed.getD j false=false):=fun j hjn hj=>by
      obtain ⟨p,hp⟩:=Option.ne_none_iff_exists'.1 hj
      have hw2:=(hkw j p hjn hp).1
      refine ⟨fun hji=>hcl1 j hji (.inr hni) ?_,fun hij=>hcl2 j hij hjn (.inr hni) ?_⟩
      ·unfold vm; rw [kw (a:=keys (T j).wr) (x:=fid) (show fid∈keys (T j).wr by rw [hw2]; simp) (by rw [← hqf]; exact hq)]; simp
      ·unfold vm; rw [kw (b:=keys (T j).wr) (x:=fid) (by rw [← hqf]; exact hq) (show fid∈keys (T j).wr by rw [hw2]; simp)]; simp
     have hL:kvD kv (fun i=>listed.getD i false) ops.size=kvD kv (fun _=>true) i:=w2s (Nat.le_of_lt hlt) (fun j hj hk=>(hfl j (by omega) hk).1 hj) (fun j hj hjn hk=>by
      rcases Nat.lt_or_ge i j with h | h
      ·exact (hfl j hjn hk).2 h
      ·obtain rfl:i=j:=by omega
       exact h1)
     unfold moF
     rw [hL]
     by_cases hne:kvD kv (fun _=>true) i=[]
     ·rw [if_neg (fun h=>h.2 hne)]
      exact hrdr q hq (.inl hni)
     ·rw [if_pos ⟨hqf,hne⟩,hqf]
      exact (htx i (Nat.le_of_lt hlt) hne).symm
    ·unfold moF
     rw [if_neg (fun h=>hqf h.1)]
     exact hrdr q hq (.inr hqf)
   -- the next state
   have hset:∀ j,(listed.setIfInBounds i true).getD j false=(listed.getD j false || decide (j=i)):=by
    intro j
    rw [Array.getD_eq_getD_getElem?,Array.getD_eq_getD_getElem?,Array.getElem?_setIfInBounds]
    by_cases hj:i=j
    ·subst hj; simp [hs,hlt]
    ·rw [if_neg hj]; simp [Ne.symm hj]
   have hmf:memD (Wf ops T) (fun j=>(listed.setIfInBounds i true).getD j false) f ops.size=updS (memD (Wf ops T) (fun i=>listed.getD i false) f ops.size) o.dst (T i).s:=by
    rw [y3x hlt h1 hset,y1t]
    ·unfold Wf; rw [ho]; rfl
    ·intro j hj hjn hDj k hk1 hk2
     have:=hcl2 j hj hjn (.inl (hkd j k hjn hk2)) (by unfold vm; rw [kw (hkf i k hk1) (hkf j k hk2)]; simp)
     rw [this] at hDj; cases hDj
   have hmo:moF M fid kv T own ops.size (fun j=>(listed.setIfInBounds i true).getD j false)=upl (moF M fid kv T own ops.size (fun i=>listed.getD i false)) (match kv i with | none=>(T i).wr | some p=>[(fid,some (some (.opq none (RP M (kvD kv (fun i=>listed.getD i false) ops.size++[p])))))]):=by
    cases hki:kv i with
    | none =>
     have e0:kvD kv (fun j=>(listed.setIfInBounds i true).getD j false) ops.size=kvD kv (fun i=>listed.getD i false) ops.size:=x3g hki (fun j hj=>by rw [hset]; simp [hj])
     have e1:memD (Wo T) (fun j=>(listed.setIfInBounds i true).getD j false) own ops.size=upl (memD (Wo T) (fun i=>listed.getD i false) own ops.size) (T i).wr:=by
      rw [y3x hlt h1 hset]
      ·rfl
      ·intro j hj hjn hDj k hk1 hk2
       have hjo:∃ oj,ops[j]?=some oj:=⟨ops[j],Array.getElem?_eq_getElem hjn⟩
       obtain ⟨oj,hoj⟩:=hjo
       have:=hcl2 j hj hjn (.inr hki) (by unfold vm; rw [kw (a:=keys (T i).wr) hk1 ((hT j oj hoj).2.2.2 k hk2)]; simp)
       rw [this] at hDj; cases hDj
     funext k
     unfold moF
     rw [e0,e1]
     by_cases hc2:k=fid∧kvD kv (fun i=>listed.getD i false) ops.size≠[]
     ·obtain ⟨hkf2,hne⟩:=hc2
      obtain ⟨j,hjn,hjD,hjk⟩:=y4h hne
      have hnw:k ∉ keys (T i).wr:=fun hkw2=>by
       rw [hkf2] at hkw2
       have hij:=hW i j hlt hjn hki hkw2 hjk
       obtain ⟨p,hp⟩:=Option.ne_none_iff_exists'.1 hjk
       have:=hcl2 j hij hjn (.inr hki) (by unfold vm; rw [kw (a:=keys (T i).wr) (x:=fid) hkw2 (show fid∈keys (T j).rd by rw [(hkw j p hjn hp).2]; simp)]; simp)
       rw [this] at hjD; cases hjD
      rw [if_pos ⟨hkf2,hne⟩,jn _ _ _ hnw]
      exact (if_pos ⟨hkf2,hne⟩).symm
     ·rw [if_neg hc2]
      by_cases hkw2:k∈keys (T i).wr
      ·exact z3r _ _ _ _ hkw2
      ·rw [jn _ _ _ hkw2,jn _ _ _ hkw2]
       exact (if_neg hc2).symm
    | some p =>
     have hp:=w2t (kv:=kv) (D:=fun i=>listed.getD i false) hlt hki h1 hset
     have hne:kvD kv (fun j=>(listed.setIfInBounds i true).getD j false) ops.size≠[]:=fun h=>by rw [h] at hp; have:=hp.length_eq; simp at this
     funext k
     unfold moF
     by_cases hkf2:k=fid
     ·subst hkf2
      rw [if_pos ⟨rfl,hne⟩,w9b hp]
      exact (jp).symm
     ·have e2:k ∉ keys [(fid,some (some (AObj.opq none (RP M (kvD kv (fun i=>listed.getD i false) ops.size++[p])))))]:=by simpa [keys] using hkf2
      rw [if_neg (fun h=>hkf2 h.1),jn _ _ _ e2,if_neg (fun h=>hkf2 h.1)]
      refine y7z (i:=i) (fun j hj=>by rw [hset]; simp [hj]) ?_
      show k ∉ keys (T i).wr
      rw [(hkw i p hlt hki).1]
      simpa using hkf2
   have hnext:∀ g' v w',Rel X (updS (memD (Wf ops T) (fun i=>listed.getD i false) f ops.size) o.dst (T i).s) (upl (moF M fid kv T own ops.size (fun i=>listed.getD i false)) (match kv i with | none=>(T i).wr | some p=>[(fid,some (some (.opq none (RP M (kvD kv (fun i=>listed.getD i false) ops.size++[p])))))])) g' (a.put o.dst v) w' →
     wpAnyIn (FR X.R) 0 P .any ops Q fuel (listed.setIfInBounds i true) (a.put o.dst v) w':=by
    intro g' v w' hr'
    refine ih _ g' _ w' (by simpa using hs) ?_ ?_ ?_
    ·have:=x6f (D:=fun i=>listed.getD i false) hlt h1 hset
     omega
    ·intro j o' ho'' hj e he hb
     rw [hset] at hj ⊢
     by_cases hji:j=i
     ·subst hji
      rw [ho] at ho''
      cases ho''
      rw [hall e he hb]; rfl
     ·have:listed.getD j false=true:=by simpa [hji] using hj
      rw [hd j o' ho'' this e he hb]; rfl
    ·rw [hmf,hmo]; exact hr'
   obtain ⟨hdN,hdf⟩:=y3o hN ho
   unfold wpOpIn
   rw [ho]
   have hw:Region.wanted o (yielded ops a.tmps) = !(T i).skip:=by
    refine y1p hr ?_
    cases hgo:o.guard with
    | none=>rw [hgo] at hgd; exact hgd
    | some q =>
     obtain ⟨j,want⟩:=q
     rw [hgo] at hgd
     obtain ⟨d,v,g1,g2,g3⟩:=hgd
     refine ⟨d,v,g1,?_,g3⟩
     rw [hf d (by rw [hlooks]; unfold Oper.looksAt; rw [hgo]; simp [g1])]
     exact g2
   cases hsk:(T i).skip with
   | false =>
    rw [hsk] at hw
    simp only [hw,Bool.not_false,if_true]
    obtain ⟨hst,hrd⟩:=hrun hsk
    have hfx:∀ x,x∈o.op.operands→evS (memD (Wf ops T) (fun i=>listed.getD i false) f ops.size) x=evS (memD (Wf ops T) (fun _=>true) f i) x:=fun x hx=>by
     cases x with
     | tmp t=>exact hf t (by rw [hlooks]; unfold Oper.looksAt; rw [List.mem_append]; exact .inl (List.mem_filterMap.2 ⟨_,by simpa using hx,rfl⟩))
     | _=>rfl
    cases hki:kv i with
    | none =>
     rw [hki] at hnext
     refine z7k hdf (hst X _ _ g a w Q hr hdN hfx (fun q hq => ?_) _ hnext)
     rw [ho' q.1 hki (List.mem_map.2 ⟨q,hq,rfl⟩)]
     exact hrd q hq
    | some p =>
     rw [hki] at hnext
     obtain ⟨p1,p2,p3,p4⟩:=hK i o p ho hki
     have hs1:(T i).s = .any:=by rw [p3]; rfl
     rw [hs1] at hnext
     have hfresh:∀ r,r∈kvD kv (fun i=>listed.getD i false) ops.size→r.1≠p.1:=w2r hnd hlt hki h1
     refine z7k hdf (p4 _ hfresh X _ _ g a w Q hr hdN hfx (fun q hq => ?_) _ hnext)
     have hq':q=(fid,some (some (.opq none (RP M (kvD kv (fun i=>listed.getD i false) ops.size))))):=by simpa [uw] using hq
     rw [hq']
     show moF M fid kv T own ops.size _ fid=_
     unfold moF
     by_cases hne:kvD kv (fun i=>listed.getD i false) ops.size=[]
     ·rw [if_neg (fun h=>h.2 hne),hne]
      -- the first of the fills
      obtain ⟨i0,hi0,hk0,hlo⟩:=w60 (kv:=kv) i (by rw [hki]; simp)
      obtain ⟨p0,hp0⟩:=Option.ne_none_iff_exists'.1 hk0
      have hi0n:i0 < ops.size:=by omega
      have ho0:=Array.getElem?_eq_getElem hi0n
      have hL0:kvD kv (fun _=>true) i0=[]:=x3h hlo
      have t0:=(hK i0 _ p0 ho0 hp0).2.2.1
      have hrd0:=((hT i0 _ ho0).2.1 (by rw [t0]; rfl)).2 (fid,some (some (.opq none (RP M (kvD kv (fun _=>true) i0))))) (by rw [t0]; simp [uw])
      rw [hL0] at hrd0
      refine Eq.trans (z8m (Nat.le_of_lt hi0n) (fun j hj hk => ?_) (fun j hj hjn hk => ?_)) hrd0
      ·have hjk:=hlo j hj
       exact hcl1 j (by omega) (.inl hjk) (by unfold vm; rw [kw (a:=keys (T j).wr) (x:=fid) hk (show fid∈keys (T i).rd by rw [(hkw i p hlt hki).2]; simp)]; simp)
      ·cases hjk:kv j with
       | none=>exact absurd (hW j i0 hjn hi0n hjk hk hk0) (by omega)
       | some pj =>
        cases hDj:listed.getD j false
        ·rfl
        ·exact absurd hne (x3j (D:=fun i=>listed.getD i false) hDj hjk hjn)
     ·rw [if_pos ⟨rfl,hne⟩]
   | true =>
    rw [hsk] at hw
    simp only [hw,Bool.not_true,Bool.false_eq_true,if_false]
    obtain ⟨e1,e2,e3⟩:=hskip hsk
    have hki:kv i=none:=by
     cases hki:kv i with
     | none=>rfl
     | some p=>rw [(hK i o p ho hki).2.2.1] at hsk; cases hsk
    rw [hki] at hnext
    refine ⟨fun _ _=>trivial,hnext g undef w ?_⟩
    rw [e1,e3]
    exact hr.put o.dst (.dat (vval undef)) undef hdN rfl

end
def x68 (P:Program) (ops:Array Oper) (M:MT κ τ) (fid:Nat) (l:List (κ×τ)) (o:Oper) (f:Nat→Slot) (own:Own) (T:Tr) (p:Option (κ×τ)):Prop:=
 y1m P ops o f own T∧∀ q,p=some q→o.guard=none∧o.dst=none∧T=uw M fid l q∧∀ l',(∀ r,r∈l'→r.1≠q.1)→Stp P o f (uw M fid l' q)
def seqF (P:Program) (ops:Array Oper) (M:MT κ τ) (fid:Nat):List Oper→(Nat→Slot)→Own→List ((List Nat×List Nat)×Option (κ×τ))→((Nat→Slot)→Own→List ((List Nat×List Nat)×Option (κ×τ))→Prop)→Prop
 | [],f,own,lg,K=>K f own lg
 | o::os,f,own,lg,K=>∃ (T:Tr) (p:Option (κ×τ)),x68 P ops M fid (lg.reverse.filterMap (·.2)) o f own T p∧seqF P ops M fid os (updS f o.dst T.s) (upl own T.wr) (((keys T.rd,keys T.wr),p)::lg) K
theorem w0a:∀ (os:List Oper) (i:Nat) (T:Nat→Tr) (kv:Nat→Option (κ×τ)) (f:Nat→Slot) (own:Own) (lg:List ((List Nat×List Nat)×Option (κ×τ))) (K:(Nat→Slot)→Own→List ((List Nat×List Nat)×Option (κ×τ))→Prop),
  ops.toList.drop i=os→i≤ops.size→lg.length=i→(∀ j,j < i→lg.reverse[j]?=some ((keys (T j).rd,keys (T j).wr),kv j)) →
  seqF P ops M fid os (memD (Wf ops T) (fun _=>true) f i) (memD (Wo T) (fun _=>true) own i) lg K →
  ∃ (T':Nat→Tr) (kv':Nat→Option (κ×τ)) (lg':List ((List Nat×List Nat)×Option (κ×τ))),(∀ j,j < i→T' j=T j∧kv' j=kv j)∧lg'.length=ops.size∧(∀ j,j < ops.size→lg'.reverse[j]?=some ((keys (T' j).rd,keys (T' j).wr),kv' j)) ∧
   (∀ j o,i≤j→ops[j]?=some o→x68 P ops M fid (kvD kv' (fun _=>true) j) o (memD (Wf ops T') (fun _=>true) f j) (memD (Wo T') (fun _=>true) own j) (T' j) (kv' j)) ∧
   K (memD (Wf ops T') (fun _=>true) f ops.size) (memD (Wo T') (fun _=>true) own ops.size) lg':=by
 intro os
 induction os with
 | nil =>
  intro i T kv f own lg K hos hi hl hlg h
  have hle:ops.size≤i:=by
   have h2:=congrArg List.length hos
   simp only [List.length_drop,List.length_nil,Array.length_toList] at h2
   omega
  obtain rfl:i=ops.size:=by omega
  refine ⟨T,kv,lg,fun _ _=>⟨rfl,rfl⟩,hl,hlg,fun j o hj ho => ?_,h⟩
  have:=(Array.getElem?_eq_some_iff.1 ho).1
  omega
 | cons o os ih =>
  intro i T kv f own lg K hos hi hl hlg h
  have hlt:i < ops.size:=by
   have h2:=congrArg List.length hos
   simp only [List.length_drop,List.length_cons,Array.length_toList] at h2
   omega
  have hoi:ops[i]?=some o:=by
   have h2:=List.drop_eq_getElem_cons (l:=ops.toList) (i:=i) (by simpa using hlt)
   rw [hos] at h2
   injection h2 with h3 h4
   rw [Array.getElem?_eq_getElem hlt]
   exact congrArg some h3.symm
  have hos':ops.toList.drop (i+1)=os:=by
   have h2:=List.drop_eq_getElem_cons (l:=ops.toList) (i:=i) (by simpa using hlt)
   rw [hos] at h2
   injection h2 with h3 h4
   exact h4.symm
  obtain ⟨t,pk,h1,h2⟩:=h
  have hlist:lg.reverse.filterMap (·.2)=kvD kv (fun _=>true) i:=y8b hl hlg
  rw [hlist] at h1
  let kv1:Nat→Option (κ×τ):=fun j=>if j=i then pk else kv j
  have hk1:∀ j,j < i→kv1 j=kv j:=fun j hj=>if_neg (by omega)
  have hk1i:kv1 i=pk:=if_pos rfl
  let T1:Nat→Tr:=fun j=>if j=i then t else T j
  have hT1:∀ j,j < i→T1 j=T j:=fun j hj=>if_neg (by omega)
  have hT1i:T1 i=t:=if_pos rfl
  have hmF:∀ m,m≤i→memD (Wf ops T1) (fun _=>true) f m=memD (Wf ops T) (fun _=>true) f m:=by
   intro m
   induction m with
   | zero=>intro _; rfl
   | succ m ihm =>
    intro hm
    have:Wf ops T1 m=Wf ops T m:=by unfold Wf; rw [hT1 m (by omega)]
    simp only [memD,if_true,ihm (by omega),this]
  have hmO:∀ m,m≤i→memD (Wo T1) (fun _=>true) own m=memD (Wo T) (fun _=>true) own m:=by
   intro m
   induction m with
   | zero=>intro _; rfl
   | succ m ihm =>
    intro hm
    have:Wo T1 m=Wo T m:=by unfold Wo; rw [hT1 m (by omega)]
    simp only [memD,if_true,ihm (by omega),this]
  have eF:memD (Wf ops T1) (fun _=>true) f (i+1)=updS (memD (Wf ops T) (fun _=>true) f i) o.dst t.s:=by
   simp only [memD,if_true,hmF i (Nat.le_refl _),y1t]
   unfold Wf; rw [hoi,hT1i]; rfl
  have eO:memD (Wo T1) (fun _=>true) own (i+1)=upl (memD (Wo T) (fun _=>true) own i) t.wr:=by
   simp only [memD,if_true,hmO i (Nat.le_refl _)]
   unfold Wo; rw [hT1i]
  rw [← eF,← eO] at h2
  obtain ⟨T',kv',lg',a1,a2,a3,a4,a5⟩:=ih (i+1) T1 kv1 f own _ K hos' hlt (by simp [hl]) (fun j hj=>by
   rw [List.reverse_cons]
   rcases Nat.lt_or_ge j i with hl' | hl'
   ·rw [List.getElem?_append_left (by simp; omega),hlg j hl',hT1 j hl',hk1 j hl']
   ·obtain rfl:j=i:=by omega
    rw [List.getElem?_append_right (by simp [hl]),hT1i,hk1i]; simp [hl]) h2
  refine ⟨T',kv',lg',fun j hj=>⟨(a1 j (by omega)).1.trans (hT1 j hj),(a1 j (by omega)).2.trans (hk1 j hj)⟩,a2,a3,fun j o' hj ho' => ?_,a5⟩
  rcases Nat.lt_or_ge i j with hl' | hl'
  ·exact a4 j o' hl' ho'
  ·obtain rfl:j=i:=by omega
   rw [hoi] at ho'
   cases ho'
   have e1:T' j=t:=(a1 j (by omega)).1.trans hT1i
   have e3:kv' j=pk:=(a1 j (by omega)).2.trans hk1i
   have e4:kvD kv' (fun _=>true) j=kvD kv (fun _=>true) j:=x3k fun m hm=>(a1 m (by omega)).2.trans (hk1 m hm)
   have eF':memD (Wf ops T') (fun _=>true) f j=memD (Wf ops T) (fun _=>true) f j:=by
    have:∀ m,m≤j→memD (Wf ops T') (fun _=>true) f m=memD (Wf ops T) (fun _=>true) f m:=by
     intro m
     induction m with
     | zero=>intro _; rfl
     | succ m ihm =>
      intro hm
      have:Wf ops T' m=Wf ops T m:=by unfold Wf; rw [(a1 m (by omega)).1,hT1 m (by omega)]
      simp only [memD,if_true,ihm (by omega),this]
    exact this j (Nat.le_refl _)
   have eO':memD (Wo T') (fun _=>true) own j=memD (Wo T) (fun _=>true) own j:=by
    have:∀ m,m≤j→memD (Wo T') (fun _=>true) own m=memD (Wo T) (fun _=>true) own m:=by
     intro m
     induction m with
     | zero=>intro _; rfl
     | succ m ihm =>
      intro hm
      have:Wo T' m=Wo T m:=by unfold Wo; rw [(a1 m (by omega)).1,hT1 m (by omega)]
      simp only [memD,if_true,ihm (by omega),this]
    exact this j (Nat.le_refl _)
   rw [e1,eF',eO',e3,e4]
   exact h1
def x57 (ops:Array Oper) (fid:Nat) (lg:List ((List Nat×List Nat)×Option (κ×τ))):Bool:=
 ((List.range ops.size).all fun j=>let an:=kq ops ops.size j
  (List.range j).all fun i => !vm ops (fun i=>(lg.getD i (([],[]),none)).1.1) (fun i=>(lg.getD i (([],[]),none)).1.2) i j || (an.contains i || ((lg.getD i (([],[]),none)).2.isSome && (lg.getD j (([],[]),none)).2.isSome))) &&
 (List.range ops.size).all fun j=>(List.range ops.size).all fun i=>(lg.getD j (([],[]),none)).2.isSome || !(lg.getD j (([],[]),none)).1.2.contains fid || !(lg.getD i (([],[]),none)).2.isSome || Nat.blt j i
theorem w8u {id:Nat} {Q:Exit→(Nat→Slot)→Own→Prop} {f:Nat→Slot} {own:Own} {N:Nat} (M:MT κ τ) (fid:Nat) (hm:P.follows .mixedOrders=true)
  (hX:X.N=N) (hE:z0s ops=true) (hN:Zn N ops=true) (h:seqF P ops M fid ops.toList f own [] fun f' own' lg=>x57 ops fid lg.reverse=true∧((lg.reverse.filterMap (·.2)).map (·.1)).Nodup∧Q .normal f' own'):AWP P X (.region id ops true) Q f own:=by
 subst hX
 intro g a w hr
 refine wpIn_region_any hm ?_
 obtain ⟨T,kv,lg,_,a2,a3,a4,a5,a7,a6⟩:=w0a (P:=P) (ops:=ops) (M:=M) (fid:=fid) ops.toList 0 (fun _=>⟨false,[],[],.any⟩) (fun _=>none) f own [] _ rfl (Nat.zero_le _) rfl (fun j hj=>absurd hj (by omega)) h
 have e1:∀ q,q < ops.size→lg.reverse.getD q (([],[]),none)=((keys (T q).rd,keys (T q).wr),kv q):=fun q hq=>by
  rw [List.getD_eq_getElem?_getD,a3 q hq]; rfl
 unfold x57 at a5
 rw [Bool.and_eq_true,List.all_eq_true,List.all_eq_true] at a5
 obtain ⟨a5,a8⟩:=a5
 rw [y8b (kv:=kv) a2 a3] at a7
 have hW:∀ j i,j < ops.size→i < ops.size→kv j=none→fid∈keys (T j).wr→kv i≠none→j < i:=fun j i hj hi hk hw hki=>by
  have h1:=a8 j (List.mem_range.2 hj)
  rw [List.all_eq_true] at h1
  have h2:=h1 i (List.mem_range.2 hi)
  rw [e1 j hj,e1 i hi] at h2
  have h3:(keys (T j).wr).contains fid=true:=List.contains_iff_mem.2 hw
  obtain ⟨p,hp⟩:=Option.ne_none_iff_exists'.1 hki
  simpa [hk,hp,h3,Nat.blt_eq,hw] using h2
 have hKK:∀ i o p,ops[i]?=some o→kv i=some p→o.guard=none∧o.dst=none∧T i=uw M fid (kvD kv (fun _=>true) i) p∧∀ l,(∀ r,r∈l→r.1≠p.1)→Stp P o (memD (Wf ops T) (fun _=>true) f i) (uw M fid l p):=fun i o p ho hp=>(a4 i o (Nat.zero_le _) ho).2 p hp
 have hfin:moF M fid kv T own ops.size (fun _=>true)=memD (Wo T) (fun _=>true) own ops.size:=by
  funext k
  unfold moF
  by_cases hc:k=fid∧kvD kv (fun _=>true) ops.size≠[]
  ·rw [if_pos hc,hc.1]
   exact (x01 (fun i o p ho hp=>(hKK i o p ho hp).2.2.1) hW ops.size (Nat.le_refl _) hc.2).symm
  ·rw [if_neg hc]
 refine w1b (X:=X) (M:=M) (fid:=fid) T kv f own hE hN hKK a7 hW (fun i o ho=>(a4 i o (Nat.zero_le _) ho).1) (fun i j hij hjn hc => ?_) (fun g a w hr=>⟨_,_,g,hr,by rw [hfin]; exact a6⟩) _ _ g a _ (by simp) ?_ (fun j o ho hj => ?_) ?_
 ·have h1:=a5 j (List.mem_range.2 hjn)
  rw [List.all_eq_true] at h1
  have h2:=h1 i (List.mem_range.2 hij)
  have e2:vm ops (fun i=>(lg.reverse.getD i (([],[]),none)).1.1) (fun i=>(lg.reverse.getD i (([],[]),none)).1.2) i j=vm ops (fun i=>keys (T i).rd) (fun i=>keys (T i).wr) i j:=by
   unfold vm
   simp only [e1 i (by omega),e1 j hjn]
  rw [e2,hc,e1 i (by omega),e1 j hjn] at h2
  simp only [Bool.not_true,Bool.false_or,Bool.or_eq_true,Bool.and_eq_true] at h2
  rcases h2 with h2 | h2
  ·exact .inl (by simpa using h2)
  ·exact .inr ⟨fun h=>by rw [h] at h2; simp at h2,fun h=>by rw [h] at h2; simp at h2⟩
 ·have:∀ n,n≤ops.size→cnt (fun i=>(Array.replicate ops.size false).getD i false) n=n:=by
   intro n
   induction n with
   | zero=>intro _; rfl
   | succ n ih =>
    intro hn
    have:(Array.replicate ops.size false).getD n false=false:=z2m _ _
    simp only [cnt,ih (by omega),this]; rfl
  exact this _ (Nat.le_refl _)
 ·have:(Array.replicate ops.size false).getD j false=false:=z2m _ _
  rw [this] at hj; cases hj
 ·have hz:∀ j,(fun i=>(Array.replicate ops.size false).getD i false) j=false:=fun j=>z2m _ _
  have hm0:moF M fid kv T own ops.size (fun i=>(Array.replicate ops.size false).getD i false)=own:=by
   funext k
   unfold moF
   have h0:kvD kv (fun i=>(Array.replicate ops.size false).getD i false) ops.size=[]:=by
    by_cases h:kvD kv (fun i=>(Array.replicate ops.size false).getD i false) ops.size=[]
    ·exact h
    ·obtain ⟨j,_,h2,_⟩:=y4h h
     have h3:(Array.replicate ops.size false).getD j false=false:=z2m _ _
     rw [h3] at h2; cases h2
   rw [if_neg (fun h=>h.2 h0),y3y hz]
  rw [y3y hz,hm0]
  exact hr.grow (Kp.refl [] w).drew

end

section
variable {P:Program} {κ τ:Type} {M:MT κ τ} {fid:Nat} {ops:Array Oper} {os:List Oper} {f:Nat→Slot} {own:Own} {lg:List ((List Nat×List Nat)×Option (κ×τ))} {K:(Nat→Slot)→Own→List ((List Nat×List Nat)×Option (κ×τ))→Prop}
variable {dst:Option Tmp} {op:Op} {ty:TypeId} {pos:String} {af:Array Edge} {gd:Option (Nat×Bool)} {s:Slot}
theorem ud (hst:Stp P ⟨dst,op,ty,pos,af,none⟩ f ⟨false,[],[],s⟩) (h:seqF P ops M fid os (updS f dst s) own ((([],[]),none)::lg) K):seqF P ops M fid (⟨dst,op,ty,pos,af,none⟩::os) f own lg K:=
 ⟨_,none,⟨⟨rfl,fun _=>⟨hst,fun q hq=>(by cases hq)⟩,fun h=>(by cases h),fun k hk=>(by cases hk)⟩,fun q hq=>by cases hq⟩,h⟩
theorem z4j {id:Nat} {q:Option (Option AObj)} (hst:Stp P ⟨dst,op,ty,pos,af,none⟩ f ⟨false,[(id,q)],[],s⟩) (hq:own id=q) (h:seqF P ops M fid os (updS f dst s) own ((([id],[]),none)::lg) K):seqF P ops M fid (⟨dst,op,ty,pos,af,none⟩::os) f own lg K:=
 ⟨_,none,⟨⟨rfl,fun _=>⟨hst,fun q' hq'=>(by simp only [List.mem_singleton] at hq'; subst hq'; exact hq)⟩,fun h=>(by cases h),fun k hk=>(by cases hk)⟩,fun q hq=>by cases hq⟩,h⟩
theorem x1x {id:Nat} {q q':Option (Option AObj)} (hst:Stp P ⟨dst,op,ty,pos,af,none⟩ f ⟨false,[(id,q)],[(id,q')],s⟩) (hq:own id=q) (h:seqF P ops M fid os (updS f dst s) (upl own [(id,q')]) ((([id],[id]),none)::lg) K):seqF P ops M fid (⟨dst,op,ty,pos,af,none⟩::os) f own lg K:=
 ⟨_,none,⟨⟨rfl,fun _=>⟨hst,fun q' hq'=>(by simp only [List.mem_singleton] at hq'; subst hq'; exact hq)⟩,fun h=>(by cases h),fun k hk=>hk⟩,fun q hq=>by cases hq⟩,h⟩
theorem y3f {p:κ×τ} (hst:∀ l,(∀ r,r∈l→r.1≠p.1)→Stp P ⟨none,op,ty,pos,af,none⟩ f (uw M fid l p)) (hq:own fid=some (some (.opq none (RP M (lg.reverse.filterMap (·.2)))))) (hf:∀ r,r∈lg.reverse.filterMap (·.2)→r.1≠p.1)
  (h:seqF P ops M fid os f (upl own [(fid,some (some (.opq none (RP M (lg.reverse.filterMap (·.2)++[p])))))]) ((([fid],[fid]),some p)::lg) K):seqF P ops M fid (⟨none,op,ty,pos,af,none⟩::os) f own lg K:=
 ⟨uw M fid (lg.reverse.filterMap (fun e:(List Nat×List Nat)×Option (κ×τ)=>e.2)) p,some p,⟨⟨rfl,fun _=>⟨hst _ hf,fun q' hq'=>(by
  have hq':q'=(fid,some (some (.opq none (RP M (lg.reverse.filterMap (·.2)))))):=by simpa [uw] using hq'
  subst hq'; exact hq)⟩,fun h=>(by cases h),fun k hk=>hk⟩,fun q hq=>by cases hq; exact ⟨rfl,rfl,rfl,hst⟩⟩,h⟩
theorem x88 (id:Nat) {t kt et:TypeId} {T:MT κ τ} (hT:TyG P t kt et T):Stp P ⟨dst,.makeMap t none,ty,pos,af,gd⟩ f ⟨false,[(id,none)],[(id,some (some (.opq none (RP T []))))],.mp id⟩:=
 x85 id (ob := .map #[] 0) (R:=RP T []) ⟨[],List.Perm.refl _,#[],0,rfl,stamped_empty 0,rfl,by simp⟩ fun ev w=>by simp [execOp,Instr.makeMap]
variable {an:Option Nat} {t kt et:TypeId} {T:MT κ τ} {x y:Operand}
theorem y2y {z:Operand} (k:κ) (v:τ) (hT:TyG P t kt et T) (hx:evS f x = .mp fid) (hy:evS f y = .dat (T.kV k)) (hz:evS f z = .dat (T.eV v)) (hk:T.ok k) (l:List (κ×τ)) (hl:∀ r,r∈l→r.1≠k) :
  Stp P ⟨dst,.insert t x y z,ty,pos,af,gd⟩ f (uw T fid l (k,v)):=by
 unfold uw
 refine x84 fun X own g a w b ob h q1 q2 q3 => ?_
 obtain ⟨b',h1,h2⟩:∃ b,g.bl fid=some b∧a.eval x = .map (some b):=by have:=h x (by simp [Op.operands]); rw [hx] at this; exact this
 rw [q1] at h1
 cases h1
 have h3:=h y (by simp [Op.operands])
 rw [hy] at h3
 have h3:=hT.kin _ _ _ _ h3
 have h4:=h z (by simp [Op.operands])
 rw [hz] at h4
 have h4:=hT.ein _ _ _ _ h4
 obtain ⟨l',hp,es,clock,rfl,q3⟩:=q3
 obtain ⟨es',clock',r1,r2⟩:=w7h hT q2 q3 hk v
 rw [(z2d l' k fun p hp'=>hl p (hp.mem_iff.1 hp')).2] at r2
 refine ⟨setBlock w b (.map es' clock'),.map es' clock',by simp only [execOp,h2,h3,h4,Sem.run_bind,r1,Result.andThen_ok,Sem.run_pure],Kp.of_grown (row:=some b) ⟨rfl,rfl,rfl,by simp [setBlock],fun i _ hi=>heap_setBlock_other q2 _ (fun e=>hi (by rw [e]))⟩ (by intro g hg; injection hg with hg; subst hg; exact .inl (by simp)),heap_setBlock_same q2 _,_,hp.append_right _,es',clock',rfl,r2⟩
theorem w2k {l l':List (κ×τ)} (hp:l'.Perm l) (hd:l'.Pairwise fun p q=>p.1≠q.1) (k:κ):lkG l' k=lkG l k:=by
 have hd':l.Pairwise fun p q=>p.1≠q.1:=hp.pairwise hd (fun h=>Ne.symm h)
 have at_:∀ (l:List (κ×τ)),(l.Pairwise fun p q=>p.1≠q.1)→∀ p,p∈l→lkG l p.1=some p.2:=fun l hd p hp=>by
  obtain ⟨j,hj⟩:=List.getElem?_of_mem hp
  exact (y0k l j p.1 p.2 hd hj).1
 by_cases h:∃ p,p∈l∧p.1=k
 ·obtain ⟨p,h1,rfl⟩:=h
  rw [at_ l hd' p h1,at_ l' hd p (hp.mem_iff.2 h1)]
 ·rw [(z2d l k fun p h1 h2=>h ⟨p,h1,h2⟩).1,(z2d l' k fun p h1 h2=>h ⟨p,hp.mem_iff.1 h1,h2⟩).1]
theorem x9b (l:List (κ×τ)) (k:κ) (hT:TyG P t kt et T) (hx:evS f x = .mp fid) (hy:evS f y = .dat (T.kV k)) (hk:T.ok k) :
  Stp P ⟨dst,.lookup t x y false,ty,pos,af,gd⟩ f ⟨false,[(fid,some (some (.opq an (RP T l))))],[],.dat (T.eV ((lkG l k).getD T.z))⟩:=
 z1g fun X own g a w h hob=>by
  obtain ⟨b,h1,h2⟩:∃ b,g.bl fid=some b∧a.eval x = .map (some b):=by have:=h x (by simp [Op.operands]); rw [hx] at this; exact this
  have h3:=h y (by simp [Op.operands])
  rw [hy] at h3
  have h3:=hT.kin _ _ _ _ h3
  obtain ⟨b',o,q1,_,q2,l',hp,es,clock,rfl,q3⟩:=hob
  rw [h1] at q1
  cases q1
  have e:=w7i hT false q2 q3 hk
  simp only [Bool.false_eq_true,if_false] at e
  rw [w2k hp (y53 q3)] at e
  exact ⟨T.ce ((lkG l k).getD T.z),by simp only [execOp,h2,h3,Sem.run_bind,e,Result.andThen_ok,Sem.run_pure],hT.eof _ _ _⟩
end
end Go.Proofs.YtndabcepiekebaaGreatDoor
