/- Plain: maps as lists of entries. No program. -/
import Derived.Test.YtgdijjmdfcgifaaGreatMb
namespace Go.Proofs.YtgdijjmdfcgifaaGreat
set_option linter.unusedVariables false
section
variable {κ τ:Type}
open Classical in
noncomputable def lkG:List (κ×τ)→κ→Option τ
 | [],_=>none
 | p::l,k=>if p.1=k then some p.2 else lkG l k
open Classical in
noncomputable def ptG:List (κ×τ)→κ→τ→List (κ×τ)
 | [],k,v=>[(k,v)]
 | p::l,k,v=>if p.1=k then (k,v)::l else p::ptG l k v
theorem y0e:∀ (l:List (κ×τ)) (k:κ),(∀ p,p∈l→p.1≠k)→lkG l k=none∧∀ v,ptG l k v=l++[(k,v)]
 | [],k,_=>⟨rfl,fun v=>rfl⟩
 | p::l,k,h=>by
  obtain ⟨h1,h2⟩:=y0e l k fun q hq=>h q (by simp [hq])
  have h3:=h p (by simp)
  exact ⟨by rw [lkG,if_neg h3]; exact h1,fun v=>by rw [ptG,if_neg h3,h2]; rfl⟩
theorem y0f:∀ (l:List (κ×τ)) (j:Nat) (k:κ) (v:τ),l.Pairwise (fun p q=>p.1≠q.1)→l[j]?=some (k,v)→lkG l k=some v∧∀ v',ptG l k v'=l.set j (k,v')
 | [],j,k,v,_,h=>by simp at h
 | p::l,0,k,v,_,h=>by
  simp only [List.getElem?_cons_zero,Option.some.injEq] at h
  subst h
  exact ⟨by rw [lkG,if_pos rfl],fun v'=>by rw [ptG,if_pos rfl]; rfl⟩
 | p::l,j+1,k,v,hp,h=>by
  obtain ⟨h1,h2⟩:=List.pairwise_cons.1 hp
  rw [List.getElem?_cons_succ] at h
  obtain ⟨h3,h4⟩:=y0f l j k v h2 h
  have h5:p.1≠k:=h1 (k,v) (List.mem_of_getElem? h)
  exact ⟨by rw [lkG,if_neg h5]; exact h3,fun v'=>by rw [ptG,if_neg h5,h4]; rfl⟩
open Classical in
theorem x7c (l:List (κ×τ)) (k k':κ) (v:τ):lkG (ptG l k v) k'=if k=k' then some v else lkG l k':=by
 induction l with
 | nil=>simp only [ptG,lkG]
 | cons p l ih =>
  simp only [ptG,lkG]
  by_cases h:p.1=k
  ·subst h
   simp only [if_true,lkG]
   by_cases h2:p.1=k'
   ·simp only [h2,if_true]
   ·simp only [h2,if_false]
  ·simp only [h,if_false,lkG,ih]
   by_cases h2:p.1=k'
   ·have h3:¬ k=k':=fun e=>h (h2.trans e.symm)
    simp only [h2,h3,if_true,if_false]
   ·simp only [h2,if_false]
end
end Go.Proofs.YtgdijjmdfcgifaaGreat
