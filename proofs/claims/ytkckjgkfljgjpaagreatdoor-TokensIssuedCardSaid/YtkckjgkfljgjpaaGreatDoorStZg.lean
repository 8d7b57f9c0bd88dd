/- Plain: the stream of draws. -/
import Derived.Test.YtkckjgkfljgjpaaGreatDoorZgm
import Derived.Test.YtkckjgkfljgjpaaGreatDoorOkZg
namespace Go.Proofs.YtkckjgkfljgjpaaGreatDoor
set_option linter.unusedVariables false
set_option maxRecDepth 20000
def SB (n:Int) (s:z0d):Prop:=0≤s.at_∧s.at_≤n
theorem SB.mono {n m:Int} {s:z0d} (h:SB n s) (hm:n≤m):SB m s:=⟨h.1,by have:=h.2; omega⟩

theorem x2l (x n:Int) (hn:n≤1000000000000000):Ok (z8s x n) fun r=>0≤r∧(1≤n→r < n)∧(n < 1→r=0):=by
 unfold z8s z9a
 refine y2r (fun h=>z1z ?_) (fun h=>ok_g ?_ (y2r (fun h2=>z1z ?_) (fun h2=>z1z ?_)))
 ·simp at h; omega
 ·simp at h; omega
 ·simp at h h2
  have h3:=Int.tmod_lt_of_pos x (show 0 < n by omega)
  have h4:-n < x.tmod n:=by
   have:=Int.lt_tmod_of_pos x (show 0 < n by omega)
   omega
  rw [y1g (by omega)]
  omega
 ·simp at h h2
  have h3:=Int.tmod_lt_of_pos x (show 0 < n by omega)
  omega
theorem y29 {k:Int} {s:z0d} (h:SB k s) (hk:k≤1000000000) (n:Int) (hn:n≤1000000000000000) :
  Ok (z1i s n) fun r=>(0≤r.1∧(1≤n→r.1 < n)∧(n < 1→r.1=0))∧SB (k+1) r.2:=by
 obtain ⟨h1,h2⟩:=h
 have e1:wr (s.at_+1)=s.at_+1:=y1g (by omega)
 have e2:wr (s.at_+1 - 1)=s.at_:=by rw [y1g (by omega)]; omega
 unfold z1i
 simp only [e1,e2]
 refine y2r (fun h => ?_) (fun h => ?_)
 ·exact z02 (x2l _ n hn) fun r hr=>z1z ⟨hr,by simp only [SB]; omega⟩
 ·simp at h
  have hL:0 < s.L.length:=by cases hq:s.L with | nil=>exact absurd hq h | cons _ _=>simp
  refine ok_g (by omega) (ok_g ⟨by omega,by omega⟩ ?_)
  have hi:0≤s.at_.tmod (s.L.length:Int):=Int.tmod_nonneg _ h1
  have hi2:=Int.tmod_lt_of_pos s.at_ (show (0:Int) < s.L.length by omega)
  have hat:Ok (at? s.L (s.at_.tmod (s.L.length:Int))) fun _=>True:=by
   unfold at?
   rw [if_pos hi,List.getElem?_eq_getElem (by omega)]
   exact ⟨_,rfl,trivial⟩
  refine z02 hat fun x _=>z02 (x2l _ _ (by omega)) fun r _=>z02 (x2l _ n hn) fun r hr=>z1z ⟨hr,by simp only [SB]; omega⟩
section
variable {k:Int} {s:z0d} (h:SB k s) (hk:k≤100000000)
include h hk
theorem y4n (n:Int) (hn:n≤1000000000000000):Ok (z1o s n) fun r=>SB (k+1) r.2:=by
 unfold z1o
 exact z02 (y29 h (by omega) n hn) fun r hr=>z1z hr.2
theorem y4d (l:List Int) (hl:l≠[]∧l.length≤1000):Ok (z1t s l) fun r=>r.1∈l∧SB (k+1) r.2:=by
 unfold z1t
 have hp:0 < l.length:=by cases hq:l with | nil=>exact absurd hq hl.1 | cons _ _=>simp
 refine z02 (y29 h (by omega) _ (by omega)) fun r hr => ?_
 have h1:=hr.1.2.1 (by omega)
 have hat:Ok (at? l r.1) fun x=>x∈l:=by
  unfold at?
  rw [if_pos hr.1.1,List.getElem?_eq_getElem (by omega)]
  exact ⟨_,rfl,List.getElem_mem _⟩
 exact z02 hat fun x hx=>z1z ⟨hx,hr.2⟩
theorem z9j (l:List Bs) (hl:l≠[]∧l.length≤1000):Ok (z03 s l) fun r=>r.1∈l∧SB (k+1) r.2:=by
 unfold z03
 have hp:0 < l.length:=by cases hq:l with | nil=>exact absurd hq hl.1 | cons _ _=>simp
 refine z02 (y29 h (by omega) _ (by omega)) fun r hr => ?_
 have h1:=hr.1.2.1 (by omega)
 have hat:Ok (at? l r.1) fun x=>x∈l:=by
  unfold at?
  rw [if_pos hr.1.1,List.getElem?_eq_getElem (by omega)]
  exact ⟨_,rfl,List.getElem_mem _⟩
 exact z02 hat fun x hx=>z1z ⟨hx,hr.2⟩
theorem x1t (lo hi:Int) (hr:-1000000000000≤lo∧lo≤hi∧hi≤1000000000000):Ok (z4r s lo hi) fun r=>(lo≤r.1∧r.1≤hi)∧SB (k+1) r.2:=by
 unfold z4r
 refine y2r (fun h=>absurd h (by simp; omega)) (fun _ => ?_)
 have e1:wr (wr (hi - lo)+1)=hi - lo+1:=by rw [y1g (n:=hi - lo) (by omega),y1g (by omega)]
 rw [e1]
 refine z02 (y29 h (by omega) _ (by omega)) fun r hr2=>z1z ?_
 have h1:=hr2.1.2.1 (by omega)
 have h2:=hr2.1.1
 simp only
 rw [y1g (by omega)]
 exact ⟨by omega,hr2.2⟩
end
theorem x57 {k:Int} {s:z0d} (h:SB k s) (hk:k≤10000000) (lo hi:Int) (hr:-1000000000000≤lo∧lo≤hi∧hi≤1000000000000):Ok (z4i s lo hi) fun r=>(-2000000000000≤r.1∧r.1≤2000000000000)∧SB (k+2) r.2:=by
 unfold z4i
 refine z02 (y4n h (by omega) 12 (by omega)) fun r hr2=>y2r (fun _ => ?_) (fun _ => ?_)
 ·refine z02 (y4d hr2 (by omega) _ ⟨by simp,by simp⟩) fun r3 hr3=>z1z ⟨?_,hr3.2.mono (by omega)⟩
  have hm:=hr3.1
  rw [y1g (n:=lo - 1) (by omega),y1g (n:=hi+1) (by omega)] at hm
  simp only [List.mem_cons,List.not_mem_nil,or_false] at hm
  simp only
  omega
 ·exact z02 (x1t hr2 (by omega) lo hi hr) fun r3 hr3=>z1z ⟨by simp only; omega,hr3.2.mono (by omega)⟩
end Go.Proofs.YtkckjgkfljgjpaaGreatDoor
