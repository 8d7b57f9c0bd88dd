/- The abstract machine: families of own objects, of any number; objects under other names; a family given up. -/
import Derived.Test.YtnnfdgngnoamoaaGreatDoorMr
import Derived.Test.YtnnfdgngnoamoaaGreatDoorMc
import Derived.Test.YtnnfdgngnoamoaaGreatDoorCch
namespace Go.Proofs.YtnnfdgngnoamoaaGreatDoor
open Go.RowKit Go.ChangeMaps Go.MapKept
set_option linter.unusedVariables false
def fxB (j id:Nat):Bool:=Nat.blt id 1000 && !(Nat.beq id j)
def okC5 (j:Nat) (own:Own):Cmp→Bool
 | .dat _=>true
 | .ptr id _=>vd own id && fxB j id
 | .row id _=>vd own id && fxB j id
 | .mp id=>vd own id && fxB j id
def okS5 (j:Nat) (own:Own):Slot→Bool
 | .any=>true
 | .dat _=>true
 | .ptr id _=>vd own id && fxB j id
 | .row id _=>vd own id && fxB j id
 | .rptr id _ _ _ _=>vd own id && fxB j id
 | .mp id=>vd own id && fxB j id
 | .rsub id _ _ _=>vd own id && fxB j id
 | .nptr id=>vd own id && fxB j id
 | .dr id _=>vd own id && fxB j id
 | .comp _ cs=>cs.all (okC5 j own)
def okO5 (j:Nat) (own:Own):AObj→Bool
 | .box _ _ cs=>cs.all (okS5 j own)
 | _=>true
def clS:Slot→Bool
 | .any=>true
 | .dat _=>true
 | _=>false
def clO:AObj→Bool
 | .box _ _ cs=>cs.all clS
 | _=>true
theorem x4v {j:Nat} {own:Own} {o:AObj} (h:clO o=true):okO5 j own o=true:=by
 cases o with
 | box an t cs =>
  refine List.all_eq_true.2 fun s hs => ?_
  have:=List.all_eq_true.1 h s hs
  cases s <;> first | rfl | cases this
 | row _ _ _=>rfl
 | opq _ _=>rfl
 | rowA _ _ _ _=>rfl
theorem y8c {j id:Nat} (h:fxB j id=true):id < 1000∧id≠j:=by
 unfold fxB at h
 rw [Bool.and_eq_true] at h
 refine ⟨by simpa [Nat.blt_eq] using h.1,fun e => ?_⟩
 have h2:=h.2
 rw [e] at h2
 simp at h2
theorem x0z {f:Nat→Slot} {p:Slot→Bool}:∀ (l:List (Nat×Slot)),subF f l→l.all (fun q=>p q.2)=true→∀ t,frs l t = .any∨(frs l t=f t∧p (frs l t)=true)
 | [],_,_,t => .inl rfl
 | (k,s)::l,h,ho,t=>by
  simp only [List.all_cons,Bool.and_eq_true] at ho
  unfold frs
  simp only [upl]
  by_cases hk:t=k
  ·subst hk
   have:Nat.beq t t=true:=by simp
   simp only [this,cond_true]
   exact .inr ⟨h.1,ho.1⟩
  ·simp only [qu hk,cond_false]
   exact x0z l h.2 ho.2 t
theorem Rel.renX {X:Ctx} {f:Nat→Slot} {own:Own} {g:Gh} {a:Act} {w:World} (h:Rel X f own g a w) (j:Nat) (σ:Nat→Nat) (lf:List (Nat×Slot)) (lo:List (Nat×AObj)) (hf:subF f lf) (ho:∀ p,p∈lo→own (σ p.1)=some (some p.2))
  (nd:(lo.map (·.1)).Nodup) (hinj:∀ i k,i∈lo.map (·.1)→k∈lo.map (·.1)→σ i=σ k→i=k) (hσ:∀ id,fxB j id=true→σ id=id) (hok1:lf.all (fun p=>okS5 j (ows lo) p.2)=true) (hok2:∀ p,p∈lo→okO5 j (ows lo) p.2=true) :
  ∃ g',Rel X (frs lf) (ows lo) g' a w∧∀ id o,ows lo id=some (some o)→∀ o',obk g' id o'=obk g (σ id) o':=by
 classical
 have hF:=x0z (p:=okS5 j (ows lo)) lf hf hok1
 have hin:∀ id o,ows lo id=some (some o)→id∈lo.map (·.1):=fun id o h1=>List.mem_map.2 ⟨(id,o),(kr nd).1 h1,rfl⟩
 have hlive:∀ id o,ows lo id=some (some o)→own (σ id)=some (some o)∧okO5 j (ows lo) o=true:=fun id o h1=>by
  have h2:=(kr nd).1 h1
  exact ⟨ho _ h2,hok2 _ h2⟩
 let g':Gh:=⟨fun id=>if ows lo id=none then none else g.bl (σ id),fun id n=>if ows lo id=none then none else g.sv (σ id) n⟩
 have gb:∀ id,ows lo id≠none→g'.bl id=g.bl (σ id):=fun id hn=>if_neg hn
 have gs:∀ id n,ows lo id≠none→g'.sv id n=g.sv (σ id) n:=fun id n hn=>if_neg hn
 have hne:∀ id o,ows lo id=some (some o)→ows lo id≠none:=fun id o h1=>by rw [h1]; simp
 have hobk:∀ id o o',ows lo id=some (some o')→obk g' id o=obk g (σ id) o:=fun id o o' h1=>by
  cases o with
  | box an t cs=>exact gb id (hne id o' h1)
  | row e size es=>simp only [obk,gs id _ (hne id o' h1)]
  | opq an R=>exact gb id (hne id o' h1)
  | rowA v e size es=>rfl
 have hM:∀ b,Mof X g' (ows lo) b→Mof X g own b:=fun b hb=>by
  rcases hb with hb | ⟨id,o,h1,h2⟩
  ·exact .inl hb
  ·rw [hobk id o o h1] at h2
   exact .inr ⟨σ id,o,(hlive id o h1).1,h2⟩
 have he:Ext (Mof X g own) (Mof X g' (ows lo)) w w:=⟨Nat.le_refl _,fun _ _ _ _=>rfl,fun b _ hb=>hM b hb⟩
 have nb:∀ id,(vd (ows lo) id && fxB j id)=true→g'.bl id=g.bl id:=fun id hs=>by
  rw [Bool.and_eq_true] at hs
  obtain ⟨o,ho⟩:=kv hs.1
  rw [gb id (hne id o ho),hσ id hs.2]
 have ns:∀ id n,(vd (ows lo) id && fxB j id)=true→g'.sv id n=g.sv id n:=fun id n hs=>by
  rw [Bool.and_eq_true] at hs
  obtain ⟨o,ho⟩:=kv hs.1
  rw [gs id n (hne id o ho),hσ id hs.2]
 have hS:∀ s v,okS5 j (ows lo) s=true→RepS g w (Mof X g own) s v→RepS g' w (Mof X g' (ows lo)) s v:=fun s v hs hv=>by
  cases s with
  | any=>trivial
  | dat u=>exact u.keep he hv
  | ptr id off=>obtain ⟨b,h1,h2⟩:=hv; exact ⟨b,by rw [nb id hs]; exact h1,h2⟩
  | row id n=>show g'.sv id n=some v; rw [ns id n hs]; exact hv
  | rptr id n size k c=>obtain ⟨b,cap,h1,h2⟩:=hv; exact ⟨b,cap,by rw [ns id n hs]; exact h1,h2⟩
  | mp id=>obtain ⟨b,h1,h2⟩:=hv; exact ⟨b,by rw [nb id hs]; exact h1,h2⟩
  | rsub id n size k=>obtain ⟨b,cap,h1,h2⟩:=hv; exact ⟨b,cap,by rw [ns id n hs]; exact h1,h2⟩
  | nptr id =>
   rcases hv with hv | ⟨b,h1,h2⟩
   ·exact .inl hv
   ·exact .inr ⟨b,by rw [nb id hs]; exact h1,h2⟩
  | dr id u=>obtain ⟨b,h1,h2⟩:=hv; exact ⟨b,by rw [nb id hs]; exact h1,(u b).keep he h2⟩
  | comp tup cs =>
   refine km.mono hv fun c x hc hx => ?_
   have hs':okC5 j (ows lo) c=true:=(List.all_eq_true.1 hs) c hc
   cases c with
   | dat u=>exact u.keep he hx
   | ptr id off=>obtain ⟨b,h1,h2⟩:=hx; exact ⟨b,by rw [nb id hs']; exact h1,h2⟩
   | row id n=>show g'.sv id n=some x; rw [ns id n hs']; exact hx
   | mp id=>obtain ⟨b,h1,h2⟩:=hx; exact ⟨b,by rw [nb id hs']; exact h1,h2⟩
 refine ⟨g',⟨h.kp,h.m0,h.n,h.df,fun t => ?_,fun id o h1 => ?_,fun id id' o o' b h1 h2 h3 h4 => ?_,fun id o b h1 h2 => ?_,fun id h1=>⟨if_pos h1,fun n=>if_pos h1⟩,fun id e size es h1 k hk=>(gs id k (hne id _ h1)).trans (h.top (σ id) e size es (hlive id _ h1).1 k hk)⟩,fun id o h1 o'=>hobk id o' o h1⟩
 ·rcases hF t with h1 | ⟨h1,h2⟩
  ·rw [h1]; trivial
  ·refine hS _ _ h2 ?_
   rw [h1]; exact h.fr t
 ·obtain ⟨h2,h3⟩:=hlive id o h1
  have h4:=h.ob (σ id) o h2
  cases o with
  | box an t cs =>
   obtain ⟨b,l,q1,q0,q2,q3,q4⟩:=h4
   refine ⟨b,l,by rw [gb id (hne id _ h1)]; exact q1,q0,q2,q3,fun j s hs => ?_⟩
   obtain ⟨x,r1,r2,r3⟩:=q4 j s hs
   exact ⟨x,r1,hS _ _ ((List.all_eq_true.1 h3) s (List.mem_of_getElem? hs)) r2,r3⟩
  | row e size es =>
   obtain ⟨v,xs,q1,q2,q3,q4,q5⟩:=h4
   refine ⟨v,xs,by rw [gs id _ (hne id _ h1)]; exact q1,q2,q3,q4,fun k c el u hk hc => ?_⟩
   obtain ⟨x,r1,r2,r3⟩:=q5 k c el u hk hc
   exact ⟨x,r1,u.keep he r2,r3⟩
  | opq an R =>
   obtain ⟨b,o,q1,q0,q2,q3⟩:=h4
   exact ⟨b,o,by rw [gb id (hne id _ h1)]; exact q1,q0,q2,q3⟩
  | rowA v e size es =>
   obtain ⟨xs,q1,q2,q3,q4,q5⟩:=h4
   refine ⟨xs,by rw [gs id _ (hne id _ h1)]; exact q1,q2,q3,q4,fun k c el u hk hc => ?_⟩
   obtain ⟨x,r1,r2,r3⟩:=q5 k c el u hk hc
   exact ⟨x,r1,u.keep he r2,r3⟩
 ·rw [hobk id o o h1] at h3
  rw [hobk id' o' o' h2] at h4
  exact hinj _ _ (hin id o h1) (hin id' o' h2) (h.sep _ _ o o' b (hlive id o h1).1 (hlive id' o' h2).1 h3 h4)
 ·rw [hobk id o o h1] at h2
  exact h.mine _ o b (hlive id o h1).1 h2
structure Big (R:List (Nat×AObj)):Prop where
 nd:(R.map (·.1)).Nodup
 big:∀ p,p∈R→1000≤p.1
 cl:∀ p,p∈R→clO p.2=true
def ka (l:List (Nat×AObj)):Bool:=l.all (fun p=>Nat.blt p.1 1000) && ndB (l.map (·.1))
theorem z63 {l:List (Nat×AObj)} (h:ka l=true) {p:Nat×AObj} (hp:p∈l):p.1 < 1000:=by
 unfold ka at h
 rw [Bool.and_eq_true] at h
 simpa [Nat.blt_eq] using List.all_eq_true.1 h.1 p hp
theorem z62 {l:List (Nat×AObj)} (h:ka l=true):(l.map (·.1)).Nodup:=by
 unfold ka at h
 rw [Bool.and_eq_true] at h
 exact uo h.2
theorem y17 {l R:List (Nat×AObj)} (h:ka l=true) (hR:Big R):((l++R).map (·.1)).Nodup:=by
 rw [List.map_append]
 refine List.nodup_append.2 ⟨z62 h,hR.nd,fun a ha b hb e => ?_⟩
 obtain ⟨p,hp,rfl⟩:=List.mem_map.1 ha
 obtain ⟨q,hq,rfl⟩:=List.mem_map.1 hb
 have:=z63 h hp
 have:=hR.big q hq
 omega
theorem xu {l R:List (Nat×AObj)} (h:ka l=true) (hR:Big R) {p:Nat×AObj} (hp:p∈R):ows (l++R) p.1=some (some p.2):=(kr (y17 h hR)).2 (List.mem_append_right _ hp)
theorem w0c {l R:List (Nat×AObj)} (hR:Big R) {i:Nat} (hi:Nat.blt i 1000=true) (hl:(l.map (·.1)).contains i=false):ows (l++R) i=none:=by
 rw [y15,List.map_append,List.mem_append]
 rintro (h | h)
 ·rw [List.contains_iff_mem.2 h] at hl; cases hl
 ·obtain ⟨p,hp,rfl⟩:=List.mem_map.1 h
  have:=hR.big p hp
  have:p.1 < 1000:=by simpa [Nat.blt_eq] using hi
  omega
theorem Big.filter {R:List (Nat×AObj)} (h:Big R) (q:Nat×AObj→Bool):Big (R.filter q):=
 ⟨List.Nodup.sublist (List.Sublist.map _ List.filter_sublist) h.nd,fun p hp=>h.big p (List.mem_filter.1 hp).1,fun p hp=>h.cl p (List.mem_filter.1 hp).1⟩
theorem z0h {own:Own}:∀ {l:List (Nat×AObj)},subO own l↔∀ p,p∈l→own p.1=some (some p.2)
 | []=>⟨fun _ p hp=>by simp at hp,fun _=>trivial⟩
 | (i,o)::l=>by
  have ih:=z0h (own:=own) (l:=l)
  refine ⟨fun h p hp => ?_,fun h=>⟨h (i,o) (by simp),ih.2 fun p hp=>h p (by simp [hp])⟩⟩
  rcases List.mem_cons.1 hp with rfl | hp
  ·exact h.1
  ·exact ih.1 h.2 p hp
theorem z1u:∀ (l:List (Nat×Slot)),(l.map (·.1)).Nodup→subF (frs l) l:=by
 suffices h:∀ (l0 l:List (Nat×Slot)),(l.map (·.1)).Nodup→(∀ t,t∈l.map (·.1)→frs l0 t=frs l t)→subF (frs l0) l from fun l hn=>h l l hn fun _ _=>rfl
 intro l0 l
 induction l with
 | nil=>intro _ _; trivial
 | cons p l ih =>
  obtain ⟨k,s⟩:=p
  intro hn he
  rw [List.map_cons,List.nodup_cons] at hn
  refine ⟨?_,ih hn.2 fun t ht => ?_⟩
  ·rw [he k (by simp)]
   unfold frs
   have:Nat.beq k k=true:=by simp
   simp only [upl,this,cond_true]
  ·rw [he t (by simp at ht ⊢; exact .inr ht)]
   have hne:t≠k:=by rintro rfl; exact hn.1 ht
   unfold frs
   simp only [upl,qu hne,cond_false]
theorem Zm {lf:List (Nat×Slot)} {l R:List (Nat×AObj)} (h:okL lf l=true) (hR:Big R):okL lf (l++R)=true:=by
 have hliv:∀ i,vd (ows l) i=true→vd (ows (l++R)) i=true:=by
  intro i h1
  obtain ⟨o,ho⟩:=kv h1
  have:∀ (l:List (Nat×AObj)),ows l i=some (some o)→ows (l++R) i=some (some o):=by
   intro l
   induction l with
   | nil=>intro h; cases h
   | cons p l ih =>
    intro h
    unfold ows at h ih ⊢
    simp only [List.cons_append,List.map_cons,upl] at h ⊢
    by_cases hk:i=p.1
    ·rw [hk] at h ⊢
     have e1:Nat.beq p.1 p.1=true:=by simp
     simp only [e1,cond_true] at h ⊢
     exact h
    ·simp only [qu hk,cond_false] at h ⊢
     exact ih h
  unfold vd
  rw [this l ho]
 have hC:∀ c,okC (ows l) c=true→okC (ows (l++R)) c=true:=fun c hc=>by
  cases c with
  | dat _=>rfl
  | ptr id _=>exact hliv _ hc
  | row id _=>exact hliv _ hc
  | mp id=>exact hliv _ hc
 have hS:∀ s,okS (ows l) s=true→okS (ows (l++R)) s=true:=fun s hs=>by
  cases s with
  | any=>rfl
  | dat _=>rfl
  | ptr id _=>exact hliv _ hs
  | row id _=>exact hliv _ hs
  | rptr id _ _ _ _=>exact hliv _ hs
  | mp id=>exact hliv _ hs
  | rsub id _ _ _=>exact hliv _ hs
  | nptr id=>exact hliv _ hs
  | dr id _=>exact hliv _ hs
  | comp tup cs=>exact List.all_eq_true.2 fun c hc=>hC c (List.all_eq_true.1 hs c hc)
 unfold okL at h ⊢
 rw [Bool.and_eq_true] at h ⊢
 refine ⟨List.all_eq_true.2 fun p hp=>hS _ (List.all_eq_true.1 h.1 p hp),List.all_eq_true.2 fun p hp => ?_⟩
 rcases List.mem_append.1 hp with hp | hp
 ·have h2:=List.all_eq_true.1 h.2 p hp
  obtain ⟨i,o⟩:=p
  cases o with
  | box an t cs=>exact List.all_eq_true.2 fun s hs=>hS s (List.all_eq_true.1 h2 s hs)
  | row _ _ _=>rfl
  | opq _ _=>rfl
  | rowA _ _ _ _=>rfl
 ·have h2:=hR.cl p hp
  obtain ⟨i,o⟩:=p
  cases o with
  | box an t cs =>
   refine List.all_eq_true.2 fun s hs => ?_
   have:=List.all_eq_true.1 h2 s hs
   cases s <;> first | rfl | cases this
  | row _ _ _=>rfl
  | opq _ _=>rfl
  | rowA _ _ _ _=>rfl
def okL5 (j:Nat) (lf:List (Nat×Slot)) (l:List (Nat×AObj)):Bool:=lf.all (fun p=>okS5 j (ows l) p.2) && l.all (fun p=>okO5 j (ows l) p.2)
theorem y6z {j:Nat} {lf:List (Nat×Slot)} {l R:List (Nat×AObj)} (h:okL5 j lf l=true) (hR:Big R):lf.all (fun p=>okS5 j (ows (l++R)) p.2)=true∧∀ p,p∈l++R→okO5 j (ows (l++R)) p.2=true:=by
 have hliv:∀ i,(vd (ows l) i && fxB j i)=true→(vd (ows (l++R)) i && fxB j i)=true:=by
  intro i h1
  rw [Bool.and_eq_true] at h1 ⊢
  refine ⟨?_,h1.2⟩
  obtain ⟨o,ho⟩:=kv h1.1
  have:∀ (l:List (Nat×AObj)),ows l i=some (some o)→ows (l++R) i=some (some o):=by
   intro l
   induction l with
   | nil=>intro h; cases h
   | cons p l ih =>
    intro h
    unfold ows at h ih ⊢
    simp only [List.cons_append,List.map_cons,upl] at h ⊢
    by_cases hk:i=p.1
    ·rw [hk] at h ⊢
     have e1:Nat.beq p.1 p.1=true:=by simp
     simp only [e1,cond_true] at h ⊢
     exact h
    ·simp only [qu hk,cond_false] at h ⊢
     exact ih h
  unfold vd
  rw [this l ho]
 have hC:∀ c,okC5 j (ows l) c=true→okC5 j (ows (l++R)) c=true:=fun c hc=>by
  cases c with
  | dat _=>rfl
  | ptr id _=>exact hliv _ hc
  | row id _=>exact hliv _ hc
  | mp id=>exact hliv _ hc
 have hS:∀ s,okS5 j (ows l) s=true→okS5 j (ows (l++R)) s=true:=fun s hs=>by
  cases s with
  | any=>rfl
  | dat _=>rfl
  | ptr id _=>exact hliv _ hs
  | row id _=>exact hliv _ hs
  | rptr id _ _ _ _=>exact hliv _ hs
  | mp id=>exact hliv _ hs
  | rsub id _ _ _=>exact hliv _ hs
  | nptr id=>exact hliv _ hs
  | dr id _=>exact hliv _ hs
  | comp tup cs=>exact List.all_eq_true.2 fun c hc=>hC c (List.all_eq_true.1 hs c hc)
 unfold okL5 at h
 rw [Bool.and_eq_true] at h
 refine ⟨List.all_eq_true.2 fun p hp=>hS _ (List.all_eq_true.1 h.1 p hp),fun p hp => ?_⟩
 rcases List.mem_append.1 hp with hp | hp
 ·have h2:=List.all_eq_true.1 h.2 p hp
  obtain ⟨i,o⟩:=p
  cases o with
  | box an t cs=>exact List.all_eq_true.2 fun s hs=>hS s (List.all_eq_true.1 h2 s hs)
  | row _ _ _=>rfl
  | opq _ _=>rfl
  | rowA _ _ _ _=>rfl
 ·exact x4v (hR.cl p hp)
section
variable {P:Program} {X:Ctx} {Q:Exit→(Nat→Slot)→Own→Prop} {f:Nat→Slot} {own:Own} {c:Code}
theorem z95 (j i0:Nat) {o:AObj} {l R:List (Nat×AObj)} (lf:List (Nat×Slot)) (hm:(i0,o)∈R) (hR:Big R) (hs:ka ((j,o)::l)=true) (hok:okL5 j lf l=true) (hf:subF f lf) (ho:subO own l) (hoR:∀ p,p∈R→own p.1=some (some p.2))
  (h:AWP P X c Q (frs lf) (ows (((j,o)::l)++R.filter fun p=>p.1 != i0))):AWP P X c Q f own:=by
 intro g a w hr
 have hR':=hR.filter fun p=>p.1 != i0
 have hi0:=hR.big _ hm
 have hj:j < 1000:=z63 hs (p:=(j,o)) (by simp)
 have hoj:=y17 hs hR'
 have hcl:=hR.cl _ hm
 -- the check with the new object among the few
 have hok':okL5 j lf ((j,o)::l)=true:=by
  have hn:j ∉ l.map (·.1):=by
   have:=z62 hs
   rw [List.map_cons,List.nodup_cons] at this
   exact this.1
  have hliv:∀ i,(vd (ows l) i && fxB j i)=true→(vd (ows ((j,o)::l)) i && fxB j i)=true:=fun i h1=>by
   rw [Bool.and_eq_true] at h1 ⊢
   refine ⟨?_,h1.2⟩
   have hne:=(y8c h1.2).2
   obtain ⟨o',ho'⟩:=kv h1.1
   unfold vd
   have:ows ((j,o)::l) i=ows l i:=by
    unfold ows
    simp only [List.map_cons,upl,qu hne,cond_false]
   rw [this,ho']
  have hC:∀ c,okC5 j (ows l) c=true→okC5 j (ows ((j,o)::l)) c=true:=fun c hc=>by
   cases c with
   | dat _=>rfl
   | ptr id _=>exact hliv _ hc
   | row id _=>exact hliv _ hc
   | mp id=>exact hliv _ hc
  have hS:∀ s,okS5 j (ows l) s=true→okS5 j (ows ((j,o)::l)) s=true:=fun s hs=>by
   cases s with
   | any=>rfl
   | dat _=>rfl
   | ptr id _=>exact hliv _ hs
   | row id _=>exact hliv _ hs
   | rptr id _ _ _ _=>exact hliv _ hs
   | mp id=>exact hliv _ hs
   | rsub id _ _ _=>exact hliv _ hs
   | nptr id=>exact hliv _ hs
   | dr id _=>exact hliv _ hs
   | comp tup cs=>exact List.all_eq_true.2 fun c hc=>hC c (List.all_eq_true.1 hs c hc)
  unfold okL5 at hok ⊢
  rw [Bool.and_eq_true] at hok ⊢
  refine ⟨List.all_eq_true.2 fun p hp=>hS _ (List.all_eq_true.1 hok.1 p hp),List.all_eq_true.2 fun p hp => ?_⟩
  rcases List.mem_cons.1 hp with rfl | hp
  ·exact x4v hcl
  ·have h2:=List.all_eq_true.1 hok.2 p hp
   obtain ⟨i,o⟩:=p
   cases o with
   | box an t cs=>exact List.all_eq_true.2 fun s hs=>hS s (List.all_eq_true.1 h2 s hs)
   | row _ _ _=>rfl
   | opq _ _=>rfl
   | rowA _ _ _ _=>rfl
 obtain ⟨k1,k2⟩:=y6z hok' hR'
 have hσne:∀ i,i≠j→(if i=j then i0 else i)=i:=fun i hi=>if_neg hi
 have key1:∀ p,p∈(((j,o)::l)++R.filter fun p=>p.1 != i0)→own (if p.1=j then i0 else p.1)=some (some p.2):=fun p hp=>by
  rcases List.mem_append.1 hp with hp | hp
  ·rcases List.mem_cons.1 hp with rfl | hp
   ·simp only [if_true]; exact hoR _ hm
   ·have hne:p.1≠j:=by
     have:=z62 hs
     rw [List.map_cons,List.nodup_cons] at this
     rintro e
     exact this.1 (List.mem_map.2 ⟨p,hp,e⟩)
    rw [hσne _ hne]
    exact z0h.1 ho p hp
  ·have hp2:=(List.mem_filter.1 hp).1
   have:=hR.big p hp2
   rw [hσne _ (by omega)]
   exact hoR p hp2
 have key0:∀ i,i∈(((j,o)::l)++R.filter fun p=>p.1 != i0).map (·.1)→i≠i0:=fun i hi e=>by
  subst e
  obtain ⟨p,hp,hpe⟩:=List.mem_map.1 hi
  rcases List.mem_append.1 hp with hp | hp
  ·have:=z63 hs hp; omega
  ·have:=(List.mem_filter.1 hp).2
   rw [hpe] at this
   simp at this
 have key2:∀ i k,i∈(((j,o)::l)++R.filter fun p=>p.1 != i0).map (·.1)→k∈(((j,o)::l)++R.filter fun p=>p.1 != i0).map (·.1)→(if i=j then i0 else i)=(if k=j then i0 else k)→i=k:=fun i k hi hk e=>by
  have h1:=key0 i hi
  have h2:=key0 k hk
  split at e <;> split at e <;> omega
 obtain ⟨g',hr',_⟩:=hr.renX j (fun i=>if i=j then i0 else i) lf (((j,o)::l)++R.filter fun p=>p.1 != i0) hf key1 hoj key2 (fun id hid=>hσne id (y8c hid).2) k1 k2
 exact h g' a w hr'
theorem x1s {g:Gh} {a:Act} {w:World} (hr:Rel X f own g a w) (j i0:Nat) {o:AObj} {l R:List (Nat×AObj)} (lf:List (Nat×Slot)) (hm:(i0,o)∈R) (hR:Big R) (hj:Nat.blt j 1000=true) (hjl:(l.map (·.1)).contains j=false) (hs:ka l=true) (hok:okL5 j lf l=true) (hf:subF f lf) (ho:subO own l) (hoj:own j=some (some o)) (hoR:∀ p,p∈R→p.1≠i0→own p.1=some (some p.2)) :
  ∃ g',Rel X (frs lf) (ows (l++R)) g' a w:=by
 have hi0:=hR.big _ hm
 have hj:j < 1000:=by simpa [Nat.blt_eq] using hj
 have hjn:j ∉ l.map (·.1):=fun h=>by rw [List.contains_iff_mem.2 h] at hjl; cases hjl
 obtain ⟨k1,k2⟩:=y6z hok hR
 have hσne:∀ i,i≠i0→(if i=i0 then j else i)=i:=fun i hi=>if_neg hi
 have key1:∀ p,p∈l++R→own (if p.1=i0 then j else p.1)=some (some p.2):=fun p hp=>by
  rcases List.mem_append.1 hp with hp | hp
  ·have:=z63 hs hp
   rw [hσne _ (by omega)]
   exact z0h.1 ho p hp
  ·by_cases hpi:p.1=i0
   ·obtain ⟨i,o2⟩:=p
    simp only at hpi
    subst hpi
    have:o=o2:=x2s hR.nd hm hp
    subst this
    simp only [if_true]; exact hoj
   ·rw [hσne _ hpi]
    exact hoR p hp hpi
 have key0:∀ i,i∈(l++R).map (·.1)→i≠j:=fun i hi e=>by
  subst e
  rw [List.map_append] at hi
  rcases List.mem_append.1 hi with hi | hi
  ·exact hjn hi
  ·obtain ⟨p,hp,hpe⟩:=List.mem_map.1 hi
   have:=hR.big p hp
   omega
 have key2:∀ i k,i∈(l++R).map (·.1)→k∈(l++R).map (·.1)→(if i=i0 then j else i)=(if k=i0 then j else k)→i=k:=fun i k hi hk e=>by
  have h1:=key0 i hi
  have h2:=key0 k hk
  split at e <;> split at e <;> omega
 obtain ⟨g',hr',_⟩:=hr.renX j (fun i=>if i=i0 then j else i) lf (l++R) hf key1 (y17 hs hR) key2 (fun id hid=>hσne id (by have:=(y8c hid).1; omega)) k1 k2
 exact ⟨g',hr'⟩
theorem y4h (j i0:Nat) {o:AObj} {l R:List (Nat×AObj)} (lf:List (Nat×Slot)) (hm:(i0,o)∈R) (hR:Big R) (hj:Nat.blt j 1000=true) (hjl:(l.map (·.1)).contains j=false) (hs:ka l=true) (hok:okL5 j lf l=true) (hf:subF f lf) (ho:subO own l) (hoj:own j=some (some o)) (hoR:∀ p,p∈R→p.1≠i0→own p.1=some (some p.2))
  (h:AWP P X c Q (frs lf) (ows (l++R))):AWP P X c Q f own:=fun g a w hr=>by
 obtain ⟨g',hr'⟩:=x1s hr j i0 lf hm hR hj hjl hs hok hf ho hoj hoR
 exact h g' a w hr'
theorem z08 {e:Exit} (j i0:Nat) {o:AObj} {l R:List (Nat×AObj)} (lf:List (Nat×Slot)) (hm:(i0,o)∈R) (hR:Big R) (hj:Nat.blt j 1000=true) (hjl:(l.map (·.1)).contains j=false) (hs:ka l=true) (hok:okL5 j lf l=true) (hf:subF f lf) (ho:subO own l) (hoj:own j=some (some o)) (hoR:∀ p,p∈R→p.1≠i0→own p.1=some (some p.2))
  (h:Q e (frs lf) (ows (l++R))):Cv Q e f own:=
 ⟨⟨_,_,fun X g a w hr=>x1s hr j i0 lf hm hR hj hjl hs hok hf ho hoj hoR,h⟩⟩
theorem y9f (t:Nat) (u:V) {l R:List (Nat×AObj)} (lf:List (Nat×Slot)) (hR:Big R) (hs:ka l=true) (hok:okL5 1000 lf l=true) (hf:subF f lf) (ho:subO own l) (hoR:∀ p,p∈R→own p.1=some (some p.2)) (ht:Nat.blt t X.N=true)
  (hu:∀ (g:Gh) (w:World) (M M':Blks) (v:Value),Ext M M' w w→(∀ p,p∈R→RepO g w M p.1 p.2∧∀ b,obk g p.1 p.2=some b→¬ M' b)→RepS g w M (f t) v→u.p w M' v)
  (h:AWP P X c Q (updS (frs lf) (some t) (.dat u)) (ows l)):AWP P X c Q f own:=by
 intro g a w hr
 have hB0:Big ([]:List (Nat×AObj)):=⟨List.nodup_nil,fun _ h=>by simp at h,fun _ h=>by simp at h⟩
 obtain ⟨k1,k2⟩:=y6z hok hB0
 rw [List.append_nil] at k1 k2
 obtain ⟨g',hr',hbk⟩:=hr.renX 1000 (fun i=>i) lf l hf (fun p hp=>z0h.1 ho p hp) (z62 hs) (fun i k _ _ e=>e) (fun _ _=>rfl) k1 k2
 have hlive:∀ id o,ows l id=some (some o)→id < 1000∧own id=some (some o):=fun id o h1=>by
  have h2:=(kr (z62 hs)).1 h1
  exact ⟨z63 hs h2,z0h.1 ho _ h2⟩
 have he:Ext (Mof X g own) (Mof X g' (ows l)) w w:=⟨Nat.le_refl _,fun _ _ _ _=>rfl,fun b _ hb=>by
  rcases hb with hb | ⟨id,o,h1,h2⟩
  ·exact .inl hb
  ·rw [hbk id o h1 o] at h2
   exact .inr ⟨id,o,(hlive id o h1).2,h2⟩⟩
 refine h g' a w ⟨hr'.kp,hr'.m0,hr'.n,hr'.df,fun t' => ?_,hr'.ob,hr'.sep,hr'.mine,hr'.fresh,hr'.top⟩
 by_cases htt:t'=t
 ·subst htt
  have:Nat.beq t' t'=true:=by simp
  simp only [updS,this,cond_true]
  refine hu g w _ _ _ he (fun p hp=>⟨hr.ob _ _ (hoR p hp),fun b hb hM => ?_⟩) (hr.fr t')
  rcases hM with hM | ⟨id,o,h1,h2⟩
  ·have h5:=hr.m0.1 b hM
   rcases hr.mine _ _ b (hoR p hp) hb with h6 | h6
   ·exact h5.2 h6
   ·omega
  ·rw [hbk id o h1 o] at h2
   obtain ⟨h3,h4⟩:=hlive id o h1
   have:=hr.sep id p.1 o p.2 b h4 (hoR p hp) h2 hb
   have:=hR.big p hp
   omega
 ·simp only [updS,qu htt,cond_false]
  exact hr'.fr t'
end
def fam (c:Nat):Nat→List AObj→List (Nat×AObj)
 | _,[]=>[]
 | n,o::l=>(4 * n+c+1000,o)::fam c (n+1) l
theorem Ym {c:Nat}:∀ {l:List AObj} {n:Nat} {p:Nat×AObj},p∈fam c n l↔∃ k o,l[k]?=some o∧p=(4 * (n+k)+c+1000,o)
 | [],n,p=>⟨fun h=>by simp [fam] at h,fun ⟨k,o,h,_⟩=>by simp at h⟩
 | o::l,n,p=>by
  rw [fam,List.mem_cons,Ym]
  constructor
  ·rintro (rfl | ⟨k,o',h,rfl⟩)
   ·exact ⟨0,o,rfl,rfl⟩
   ·exact ⟨k+1,o',by simpa using h,by rw [show n+1+k=n+(k+1) by omega]⟩
  ·rintro ⟨k,o',h,rfl⟩
   cases k with
   | zero=>simp at h; subst h; exact .inl rfl
   | succ k=>exact .inr ⟨k,o',by simpa using h,by rw [show n+1+k=n+(k+1) by omega]⟩
theorem jp {c:Nat} {l:List AObj} {k:Nat} {o:AObj} (h:l[k]?=some o):(4 * k+c+1000,o)∈fam c 0 l:=Ym.2 ⟨k,o,h,by rw [Nat.zero_add]⟩
theorem x4i {c:Nat}:∀ {l:List AObj} {n:Nat},((fam c n l).map (·.1)).Nodup
 | [],n=>List.nodup_nil
 | o::l,n=>by
  rw [fam,List.map_cons,List.nodup_cons]
  refine ⟨fun h => ?_,x4i⟩
  obtain ⟨p,hp,e⟩:=List.mem_map.1 h
  obtain ⟨k,o',_,rfl⟩:=Ym.1 hp
  simp only at e
  omega
theorem y33 {c:Nat} {l:List AObj} {n:Nat} (h:∀ o,o∈l→clO o=true):Big (fam c n l):=
 ⟨x4i,fun p hp=>by obtain ⟨k,o,_,rfl⟩:=Ym.1 hp; simp only; omega,fun p hp=>by obtain ⟨k,o,h1,rfl⟩:=Ym.1 hp; exact h o (List.mem_of_getElem? h1)⟩
theorem w5s {c d:Nat} {l m:List AObj} (hc:c < 4) (hd:d < 4) (hcd:c≠d) (h:∀ o,o∈l→clO o=true) (h':∀ o,o∈m→clO o=true):Big (fam c 0 l++fam d 0 m):=by
 have h1:=y33 (c:=c) (n:=0) h
 have h2:=y33 (c:=d) (n:=0) h'
 refine ⟨?_,fun p hp => ?_,fun p hp => ?_⟩
 ·rw [List.map_append]
  refine List.nodup_append.2 ⟨h1.nd,h2.nd,fun a ha b hb e => ?_⟩
  obtain ⟨p,hp,rfl⟩:=List.mem_map.1 ha
  obtain ⟨q,hq,rfl⟩:=List.mem_map.1 hb
  obtain ⟨k,o,_,rfl⟩:=Ym.1 hp
  obtain ⟨k',o',_,rfl⟩:=Ym.1 hq
  simp only at e
  omega
 ·rcases List.mem_append.1 hp with hp | hp
  ·exact h1.big p hp
  ·exact h2.big p hp
 ·rcases List.mem_append.1 hp with hp | hp
  ·exact h1.cl p hp
  ·exact h2.cl p hp
end Go.Proofs.YtnnfdgngnoamoaaGreatDoor
