import Derived.Test.YtbpedjpoikmbjaaGreatDoorKr
namespace Go.Proofs.YtbpedjpoikmbjaaGreatDoor
open Go.RowKit Go.ChangeMaps Go.MapKept
set_option linter.unusedVariables false
section
variable {α β:Type} {g g':Nat->α->β} {E:List α} {i j:Nat} {p v:α} {o:β}
theorem z01 (h:E[i]?=some p):(E.mapIdx g)[i]?=some (g i p):=by rw [List.getElem?_mapIdx,h];rfl
theorem y8t (hj:j≠i) (hg:∀ m q,m≠i->g' m q=g m q) (h:((E.set i v).mapIdx g')[j]?=some o):(E.mapIdx g)[j]?=some o:=by
 rw [List.getElem?_mapIdx] at h ⊢;rw [List.getElem?_set,if_neg (Ne.symm hj)] at h;obtain⟨q,h1,rfl⟩:=Option.map_eq_some_iff.1 h;rw [h1,hg j q hj];rfl
theorem y8s (hi:E[i]?=some p):((E.set i v).mapIdx g')[i]?=some (g' i v):=by
 have:i < E.length:=(List.getElem?_eq_some_iff.1 hi).1;exact z01 (by rw [List.getElem?_set];simp [this])
theorem y8r (hj:j≠E.length) (hg:∀ m q,m≠E.length->g' m q=g m q) (h:((E++[v]).mapIdx g')[j]?=some o):(E.mapIdx g)[j]?=some o:=by
 rw [List.getElem?_mapIdx] at h ⊢;rcases Nat.lt_or_ge j E.length with hl|hl
 ·rw [List.getElem?_append_left hl] at h;obtain⟨q,h1,rfl⟩:=Option.map_eq_some_iff.1 h;rw [h1,hg j q hj];rfl
 ·rw [List.getElem?_append_right hl] at h;have:[v][j-E.length]?=none:=by rw [List.getElem?_eq_none_iff];simp;omega
  rw [this] at h;cases h
theorem y8q:((E++[v]).mapIdx g')[E.length]?=some (g' E.length v):=z01 (by rw [List.getElem?_append_right (Nat.le_refl _)];simp)
end
def fxV (h:Nat->Value) (i:Nat) (v:Value):Nat->Value:=λj=>if j=i then v else h j
theorem w7o {f:Nat->Nat} {i b m:Nat} (h:m≠i):fx f i b m=f m:=if_neg h
theorem w7n {f:Nat->Nat} {i b:Nat}:fx f i b i=b:=if_pos rfl
theorem y5c {f:Nat->Value} {i m:Nat} {v:Value} (h:m≠i):fxV f i v m=f m:=if_neg h
theorem y5b {f:Nat->Value} {i:Nat} {v:Value}:fxV f i v i=v:=if_pos rfl
abbrev fam2 (A B:List AObj):List (Nat×AObj):=fam 0 0 A++fam 1 0 B
def z1k (A B:List AObj) (i:Nat):List (Nat×AObj):=(fam2 A B).filter λp=>p.1 != 4*i+0+1000
def z7k (A B:List AObj) (i:Nat):List (Nat×AObj):=(z1k A B i).filter λp=>p.1 != 4*i+1+1000
section
variable {A B:List AObj} {i j:Nat} {o:AObj} {lits:List (Nat×AObj)} {own:Own}
theorem w76 (hA:∀ o,o∈A->clO o=true) (hB:∀ o,o∈B->clO o=true):Big (fam2 A B):=w75 (by decide) (by decide) (by decide) hA hB
theorem y5m (h:A[i]?=some o):(4*i+0+1000,o)∈fam2 A B:=List.mem_append_left _ (ju h)
theorem x0k (h:B[i]?=some o):(4*i+1+1000,o)∈z1k A B i:=List.mem_filter.2 ⟨List.mem_append_right _ (ju h),by simp⟩
theorem x7a {p:Nat×AObj} (h:p∈fam2 A B):(∃ j o,A[j]?=some o/\p=(4*j+0+1000,o))∨∃ j o,B[j]?=some o/\p=(4*j+1+1000,o):=by
 rcases List.mem_append.1 h with h|h
 ·obtain⟨k,o,h1,rfl⟩:=Qa.1 h;exact .inl ⟨k,o,h1,by rw [Nat.zero_add]⟩
 ·obtain⟨k,o,h1,rfl⟩:=Qa.1 h;exact .inr ⟨k,o,h1,by rw [Nat.zero_add]⟩
theorem x0i (hA:∀ j o,A[j]?=some o->own (4*j+0+1000)=some (some o)) (hB:∀ j o,B[j]?=some o->own (4*j+1+1000)=some (some o)):∀ p,p∈fam2 A B->own p.1=some (some p.2):=λp hp=>by
 rcases x7a hp with ⟨j,o,h,rfl⟩|⟨j,o,h,rfl⟩
 ·exact hA j o h
 ·exact hB j o h
theorem x0j (hA:∀ j o,j≠i->A[j]?=some o->own (4*j+0+1000)=some (some o)) (hB:∀ j o,j≠i->B[j]?=some o->own (4*j+1+1000)=some (some o)):∀ p,p∈z1k A B i->p.1≠4*i+1+1000->own p.1=some (some p.2):=λp hp hne=>by
 obtain⟨h1,h2⟩:=List.mem_filter.1 hp;rcases x7a h1 with ⟨j,o,h,rfl⟩|⟨j,o,h,rfl⟩
 ·exact hA j o (λe=>by subst e;simp at h2) h
 ·exact hB j o (λe=>hne (by rw [e])) h
theorem x68 (hA:∀ j o,j≠i->A[j]?=some o->own (4*j+0+1000)=some (some o)) (hB:∀ j o,j≠i->B[j]?=some o->own (4*j+1+1000)=some (some o)):∀ p,p∈z7k A B i->own p.1=some (some p.2):=λp hp=>by
 obtain⟨h1,h2⟩:=List.mem_filter.1 hp;exact x0j hA hB p h1 (by simpa using h2)
theorem x69 (hs:kk lits=true) (hb:Big (fam2 A B)):∀ p,p∈fam2 A B->p.1≠4*i+0+1000->ows (lits++z1k A B i) p.1=some (some p.2):=λp hp hne =>
 Zg hs (hb.filter _) (List.mem_filter.2 ⟨hp,by simpa using hne⟩)
theorem y5l (hs:kk lits=true) (hb:Big (fam2 A B)) (h:A[j]?=some o):ows (lits++fam2 A B) (4*j+0+1000)=some (some o):=Zg (p:=(4*j+0+1000,o)) hs hb (List.mem_append_left _ (ju h))
theorem y5k (hs:kk lits=true) (hb:Big (fam2 A B)) (h:B[j]?=some o):ows (lits++fam2 A B) (4*j+1+1000)=some (some o):=Zg (p:=(4*j+1+1000,o)) hs hb (List.mem_append_right _ (ju h))
theorem x0h (hs:kk lits=true) (hb:Big (fam2 A B)) (hj:j≠i) (h:A[j]?=some o):ows (lits++z7k A B i) (4*j+0+1000)=some (some o):=
 Zg (p:=(4*j+0+1000,o)) hs ((hb.filter _).filter _) (List.mem_filter.2 ⟨List.mem_filter.2 ⟨List.mem_append_left _ (ju h),by simp;omega⟩,by simp;omega⟩)
theorem x0g (hs:kk lits=true) (hb:Big (fam2 A B)) (hj:j≠i) (h:B[j]?=some o):ows (lits++z7k A B i) (4*j+1+1000)=some (some o):=
 Zg (p:=(4*j+1+1000,o)) hs ((hb.filter _).filter _) (List.mem_filter.2 ⟨List.mem_filter.2 ⟨List.mem_append_right _ (ju h),by simp;omega⟩,by simp;omega⟩)
theorem y5i (hb:Big (fam2 A B)):Big (z7k A B i):=(hb.filter _).filter _
theorem y5j (hb:Big (fam2 A B)):Big (z1k A B i):=hb.filter _
end
theorem w8h {Q:Exit->(Nat->Slot)->Own->Prop} {e:Exit} {f:Nat->Slot} {own:Own} (h:Cv (Cv Q) e f own):Cv Q e f own:=by
 obtain⟨⟨f1,own1,h1,⟨⟨f2,own2,h2,h3⟩⟩⟩⟩:=h
 exact⟨⟨f2,own2,λX g a w hr=>by
  obtain⟨g1,k1⟩:=h1 X g a w hr
  exact h2 X g1 a w k1,h3⟩⟩
theorem x4f {g:Gh} {w:World} {M M':Blks} {id:Nat} {v:Value} {e:TypeId} {size:Nat} {es:List (List V)} (he:Ext M M' w w) (h:RepO g w M id (.rowA v e size es)) (hM:∀ b,v.ownBlock=some b->¬ M' b):(vlst es).p w M' v:=by
 obtain⟨xs,q1,q2,q3,q4,q5⟩:=h;rcases q2.2 with ⟨rfl,hn⟩|⟨b,cap,cur,rfl,_,hb,hnc,_,hcs,htk⟩
 ·have:es=[]:=List.eq_nil_of_length_eq_zero hn;subst this;exact⟨none,0,rfl,Nat.le_refl _,λh=>absurd rfl h⟩
 ·refine⟨_,cap,rfl,hnc,λ_=>⟨b,0,size,rfl,hM b rfl,cur,e,(0,0),hb,q4,λk c el u hk hc=>?_⟩⟩;obtain⟨x,r1,r2,r3⟩:=q5 k c el u hk hc;refine⟨x,?_,u.keep he r2,r3⟩;rw [← htk,List.getElem?_take] at r1;split at r1
  ·rw [Nat.zero_add];simpa using r1
  ·cases r1
def x7l (B:AObj->Prop) (s:Slot) (u:V):Prop:=s = .dat u∨∃ v e size es,s = .dat (vval v)/\u=vlst es/\B (.rowA v e size es)
theorem w7p {κ τ:Type} {T:MT κ (Option Nat)} {size:Nat} {C:τ->List V} {fb:Nat->Nat} {l:List (κ×τ)} {b:Nat} {es:Array MapEntry} {cl:Nat} {s:Slot} {A B:List AObj} {bt:TypeId} (hs:(s = .dat (vmpX b es cl)/\EnG T es cl (EPb fb l))∨s = .dat (vmpG T (EPb fb l))) (hz:∀ x,(C x).length=size)
  (hA:∀ (i:Nat) (p:κ×τ),l[i]?=some p->∃ cs:List Slot,A[i]?=some (AObj.box (some (fb i)) bt cs)/\∀ (j:Nat) (u:V),(C p.2)[j]?=some u->∃ s,cs[j]?=some s/\x7l (λo=>B[i]?=some o) s u) (g:Gh) (w:World) (M M':Blks) (v:Value) (he:Ext M M' w w)
  (hR:∀ p,p∈fam2 A B->RepO g w M p.1 p.2/\∀ b,obk g p.1 p.2=some b->¬ M' b) (hv:RepS g w M s v):(vmpA T size C l).p w M' v:=by
 have key:∃ b es cl,(vmpX b es cl).p w M' v/\EnG T es cl (EPb fb l):=by
  rcases hs with ⟨rfl,hE⟩|rfl
  ·exact⟨b,es,cl,(vmpX b es cl).keep he hv,hE⟩
  ·obtain⟨b,es,cl,h1,h2,h3,h4⟩:=(vmpG T (EPb fb l)).keep he hv;exact⟨b,es,cl,⟨h1,h2,h3⟩,h4⟩
 obtain⟨b,es,cl,⟨h1,h2,h3⟩,hE⟩:=key;refine⟨b,es,cl,fb,h1,h2,h3,hE,λi p hp=>?_⟩;obtain⟨cs,hA1,hA2⟩:=hA i p hp;obtain⟨⟨b',lv,q1,q0,q2,q3,q4⟩,hM⟩:=hR _ (y5m hA1);have hb:=q0 (fb i) rfl;rw [← hb] at q1 q2;refine⟨hM _ q1,lv.toArray,bt,(0,0),q2,λel hel=>by rw [List.mem_singleton.1 hel];exact hz _,λk cc el u hk hc=>?_⟩;rcases k with _|k
 ·cases hk;obtain⟨s,hs1,hs2⟩:=hA2 cc u hc;obtain⟨x,x1,x2,x3⟩:=q4 cc s hs1;refine⟨x,by simpa using x1,?_,x3⟩;rcases hs2 with rfl|⟨v,e,sz,es,rfl,rfl,hB⟩
  ·exact u.keep he x2
  ·obtain⟨hr1,hr2⟩:=hR (4*i+1+1000,.rowA v e sz es) (List.mem_append_right _ (ju hB));have x2:x=v:=x2;rw [x2];exact x4f he hr1 hr2
 ·simp at hk
end Go.Proofs.YtbpedjpoikmbjaaGreatDoor
