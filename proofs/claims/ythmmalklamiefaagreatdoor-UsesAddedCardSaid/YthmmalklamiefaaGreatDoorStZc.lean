/- Plain: the stream of draws. -/
import Derived.Test.YthmmalklamiefaaGreatDoorZcm
import Derived.Test.YthmmalklamiefaaGreatDoorOkZc
namespace Go.Proofs.YthmmalklamiefaaGreatDoor
set_option linter.unusedVariables false
set_option maxRecDepth 20000
def SB (n:Int) (s:z0d):Prop:=0≤s.at_∧s.at_≤n
theorem SB.mono {n m:Int} {s:z0d} (h:SB n s) (hm:n≤m):SB m s:=⟨h.1,by have:=h.2; omega⟩

theorem x5c (x n:Int) (hn:n≤1000000000000000):Ok (z93 x n) fun r=>0≤r∧(1≤n→r < n)∧(n < 1→r=0):=by
 unfold z93 y0m
 refine y0s (fun h=>z13 ?_) (fun h=>ok_g ?_ (y0s (fun h2=>z13 ?_) (fun h2=>z13 ?_)))
 ·simp at h; omega
 ·simp at h; omega
 ·simp at h h2
  have h3:=Int.tmod_lt_of_pos x (show 0 < n by omega)
  have h4:-n < x.tmod n:=by
   have:=Int.lt_tmod_of_pos x (show 0 < n by omega)
   omega
  rw [z6j (by omega)]
  omega
 ·simp at h h2
  have h3:=Int.tmod_lt_of_pos x (show 0 < n by omega)
  omega
theorem y60 {k:Int} {s:z0d} (h:SB k s) (hk:k≤1000000000) (n:Int) (hn:n≤1000000000000000) :
  Ok (z2f s n) fun r=>(0≤r.1∧(1≤n→r.1 < n)∧(n < 1→r.1=0))∧SB (k+1) r.2:=by
 obtain ⟨h1,h2⟩:=h
 have e1:wr (s.at_+1)=s.at_+1:=z6j (by omega)
 have e2:wr (s.at_+1 - 1)=s.at_:=by rw [z6j (by omega)]; omega
 unfold z2f
 simp only [e1,e2]
 refine y0s (fun h => ?_) (fun h => ?_)
 ·exact z1c (x5c _ n hn) fun r hr=>z13 ⟨hr,by simp only [SB]; omega⟩
 ·simp at h
  have hL:0 < s.L.length:=by cases hq:s.L with | nil=>exact absurd hq h | cons _ _=>simp
  refine ok_g (by omega) (ok_g ⟨by omega,by omega⟩ ?_)
  have hi:0≤s.at_.tmod (s.L.length:Int):=Int.tmod_nonneg _ h1
  have hi2:=Int.tmod_lt_of_pos s.at_ (show (0:Int) < s.L.length by omega)
  have hat:Ok (at? s.L (s.at_.tmod (s.L.length:Int))) fun _=>True:=by
   unfold at?
   rw [if_pos hi,List.getElem?_eq_getElem (by omega)]
   exact ⟨_,rfl,trivial⟩
  refine z1c hat fun x _=>z1c (x5c _ _ (by omega)) fun r _=>z1c (x5c _ n hn) fun r hr=>z13 ⟨hr,by simp only [SB]; omega⟩
section
variable {k:Int} {s:z0d} (h:SB k s) (hk:k≤100000000)
include h hk
theorem y4y (n:Int) (hn:n≤1000000000000000):Ok (z1q s n) fun r=>SB (k+1) r.2:=by
 unfold z1q
 exact z1c (y60 h (by omega) n hn) fun r hr=>z13 hr.2
theorem y4c (l:List Int) (hl:l≠[]∧l.length≤1000):Ok (z1e s l) fun r=>r.1∈l∧SB (k+1) r.2:=by
 unfold z1e
 have hp:0 < l.length:=by cases hq:l with | nil=>exact absurd hq hl.1 | cons _ _=>simp
 refine z1c (y60 h (by omega) _ (by omega)) fun r hr => ?_
 have h1:=hr.1.2.1 (by omega)
 have hat:Ok (at? l r.1) fun x=>x∈l:=by
  unfold at?
  rw [if_pos hr.1.1,List.getElem?_eq_getElem (by omega)]
  exact ⟨_,rfl,List.getElem_mem _⟩
 exact z1c hat fun x hx=>z13 ⟨hx,hr.2⟩
theorem y2x (l:List Bs) (hl:l≠[]∧l.length≤1000):Ok (z1i s l) fun r=>r.1∈l∧SB (k+1) r.2:=by
 unfold z1i
 have hp:0 < l.length:=by cases hq:l with | nil=>exact absurd hq hl.1 | cons _ _=>simp
 refine z1c (y60 h (by omega) _ (by omega)) fun r hr => ?_
 have h1:=hr.1.2.1 (by omega)
 have hat:Ok (at? l r.1) fun x=>x∈l:=by
  unfold at?
  rw [if_pos hr.1.1,List.getElem?_eq_getElem (by omega)]
  exact ⟨_,rfl,List.getElem_mem _⟩
 exact z1c hat fun x hx=>z13 ⟨hx,hr.2⟩
theorem x1g (lo hi:Int) (hr:-1000000000000≤lo∧lo≤hi∧hi≤1000000000000):Ok (z4i s lo hi) fun r=>(lo≤r.1∧r.1≤hi)∧SB (k+1) r.2:=by
 unfold z4i
 refine y0s (fun h=>absurd h (by simp; omega)) (fun _ => ?_)
 have e1:wr (wr (hi - lo)+1)=hi - lo+1:=by rw [z6j (n:=hi - lo) (by omega),z6j (by omega)]
 rw [e1]
 refine z1c (y60 h (by omega) _ (by omega)) fun r hr2=>z13 ?_
 have h1:=hr2.1.2.1 (by omega)
 have h2:=hr2.1.1
 simp only
 rw [z6j (by omega)]
 exact ⟨by omega,hr2.2⟩
end
theorem y8y {k:Int} {s:z0d} (h:SB k s) (hk:k≤10000000) (lo hi:Int) (hr:-1000000000000≤lo∧lo≤hi∧hi≤1000000000000):Ok (z2m s lo hi) fun r=>(-2000000000000≤r.1∧r.1≤2000000000000)∧SB (k+2) r.2:=by
 unfold z2m
 refine z1c (y4y h (by omega) 12 (by omega)) fun r hr2=>y0s (fun _ => ?_) (fun _ => ?_)
 ·refine z1c (y4c hr2 (by omega) _ ⟨by simp,by simp⟩) fun r3 hr3=>z13 ⟨?_,hr3.2.mono (by omega)⟩
  have hm:=hr3.1
  rw [z6j (n:=lo - 1) (by omega),z6j (n:=hi+1) (by omega)] at hm
  simp only [List.mem_cons,List.not_mem_nil,or_false] at hm
  simp only
  omega
 ·exact z1c (x1g hr2 (by omega) lo hi hr) fun r3 hr3=>z13 ⟨by simp only; omega,hr3.2.mono (by omega)⟩
end Go.Proofs.YthmmalklamiefaaGreatDoor
