/- Plain: the stream of draws. -/
import Derived.Test.YtihjlkocfeoelaaGreatDoorZem
import Derived.Test.YtihjlkocfeoelaaGreatDoorOkZe
namespace Go.Proofs.YtihjlkocfeoelaaGreatDoor
set_option linter.unusedVariables false
set_option maxRecDepth 20000
def SB (n:Int) (s:z0d):Prop:=0≤s.at_∧s.at_≤n
theorem SB.mono {n m:Int} {s:z0d} (h:SB n s) (hm:n≤m):SB m s:=⟨h.1,by have:=h.2; omega⟩

theorem y5k (x n:Int) (hn:n≤1000000000000000):Ok (z5m x n) fun r=>0≤r∧(1≤n→r < n)∧(n < 1→r=0):=by
 unfold z5m z5x
 refine y0u (fun h=>z2x ?_) (fun h=>ok_g ?_ (y0u (fun h2=>z2x ?_) (fun h2=>z2x ?_)))
 ·simp at h; omega
 ·simp at h; omega
 ·simp at h h2
  have h3:=Int.tmod_lt_of_pos x (show 0 < n by omega)
  have h4:-n < x.tmod n:=by
   have:=Int.lt_tmod_of_pos x (show 0 < n by omega)
   omega
  rw [z8s (by omega)]
  omega
 ·simp at h h2
  have h3:=Int.tmod_lt_of_pos x (show 0 < n by omega)
  omega
theorem z9t {k:Int} {s:z0d} (h:SB k s) (hk:k≤1000000000) (n:Int) (hn:n≤1000000000000000) :
  Ok (z08 s n) fun r=>(0≤r.1∧(1≤n→r.1 < n)∧(n < 1→r.1=0))∧SB (k+1) r.2:=by
 obtain ⟨h1,h2⟩:=h
 have e1:wr (s.at_+1)=s.at_+1:=z8s (by omega)
 have e2:wr (s.at_+1 - 1)=s.at_:=by rw [z8s (by omega)]; omega
 unfold z08
 simp only [e1,e2]
 refine y0u (fun h => ?_) (fun h => ?_)
 ·exact z07 (y5k _ n hn) fun r hr=>z2x ⟨hr,by simp only [SB]; omega⟩
 ·simp at h
  have hL:0 < s.L.length:=by cases hq:s.L with | nil=>exact absurd hq h | cons _ _=>simp
  refine ok_g (by omega) (ok_g ⟨by omega,by omega⟩ ?_)
  have hi:0≤s.at_.tmod (s.L.length:Int):=Int.tmod_nonneg _ h1
  have hi2:=Int.tmod_lt_of_pos s.at_ (show (0:Int) < s.L.length by omega)
  have hat:Ok (at? s.L (s.at_.tmod (s.L.length:Int))) fun _=>True:=by
   unfold at?
   rw [if_pos hi,List.getElem?_eq_getElem (by omega)]
   exact ⟨_,rfl,trivial⟩
  refine z07 hat fun x _=>z07 (y5k _ _ (by omega)) fun r _=>z07 (y5k _ n hn) fun r hr=>z2x ⟨hr,by simp only [SB]; omega⟩
section
variable {k:Int} {s:z0d} (h:SB k s) (hk:k≤100000000)
include h hk
theorem y1q (n:Int) (hn:n≤1000000000000000):Ok (z1o s n) fun r=>SB (k+1) r.2:=by
 unfold z1o
 exact z07 (z9t h (by omega) n hn) fun r hr=>z2x hr.2
theorem y2e (l:List Int) (hl:l≠[]∧l.length≤1000):Ok (z2n s l) fun r=>r.1∈l∧SB (k+1) r.2:=by
 unfold z2n
 have hp:0 < l.length:=by cases hq:l with | nil=>exact absurd hq hl.1 | cons _ _=>simp
 refine z07 (z9t h (by omega) _ (by omega)) fun r hr => ?_
 have h1:=hr.1.2.1 (by omega)
 have hat:Ok (at? l r.1) fun x=>x∈l:=by
  unfold at?
  rw [if_pos hr.1.1,List.getElem?_eq_getElem (by omega)]
  exact ⟨_,rfl,List.getElem_mem _⟩
 exact z07 hat fun x hx=>z2x ⟨hx,hr.2⟩
theorem z7i (l:List Bs) (hl:l≠[]∧l.length≤1000):Ok (z03 s l) fun r=>r.1∈l∧SB (k+1) r.2:=by
 unfold z03
 have hp:0 < l.length:=by cases hq:l with | nil=>exact absurd hq hl.1 | cons _ _=>simp
 refine z07 (z9t h (by omega) _ (by omega)) fun r hr => ?_
 have h1:=hr.1.2.1 (by omega)
 have hat:Ok (at? l r.1) fun x=>x∈l:=by
  unfold at?
  rw [if_pos hr.1.1,List.getElem?_eq_getElem (by omega)]
  exact ⟨_,rfl,List.getElem_mem _⟩
 exact z07 hat fun x hx=>z2x ⟨hx,hr.2⟩
theorem y79 (lo hi:Int) (hr:-1000000000000≤lo∧lo≤hi∧hi≤1000000000000):Ok (z30 s lo hi) fun r=>(lo≤r.1∧r.1≤hi)∧SB (k+1) r.2:=by
 unfold z30
 refine y0u (fun h=>absurd h (by simp; omega)) (fun _ => ?_)
 have e1:wr (wr (hi - lo)+1)=hi - lo+1:=by rw [z8s (n:=hi - lo) (by omega),z8s (by omega)]
 rw [e1]
 refine z07 (z9t h (by omega) _ (by omega)) fun r hr2=>z2x ?_
 have h1:=hr2.1.2.1 (by omega)
 have h2:=hr2.1.1
 simp only
 rw [z8s (by omega)]
 exact ⟨by omega,hr2.2⟩
end
theorem x4k {k:Int} {s:z0d} (h:SB k s) (hk:k≤10000000) (lo hi:Int) (hr:-1000000000000≤lo∧lo≤hi∧hi≤1000000000000):Ok (z4l s lo hi) fun r=>(-2000000000000≤r.1∧r.1≤2000000000000)∧SB (k+2) r.2:=by
 unfold z4l
 refine z07 (y1q h (by omega) 12 (by omega)) fun r hr2=>y0u (fun _ => ?_) (fun _ => ?_)
 ·refine z07 (y2e hr2 (by omega) _ ⟨by simp,by simp⟩) fun r3 hr3=>z2x ⟨?_,hr3.2.mono (by omega)⟩
  have hm:=hr3.1
  rw [z8s (n:=lo - 1) (by omega),z8s (n:=hi+1) (by omega)] at hm
  simp only [List.mem_cons,List.not_mem_nil,or_false] at hm
  simp only
  omega
 ·exact z07 (y79 hr2 (by omega) lo hi hr) fun r3 hr3=>z2x ⟨by simp only; omega,hr3.2.mono (by omega)⟩
end Go.Proofs.YtihjlkocfeoelaaGreatDoor
