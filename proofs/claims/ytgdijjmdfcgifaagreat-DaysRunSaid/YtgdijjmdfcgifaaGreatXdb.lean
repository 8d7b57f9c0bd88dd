/- Plain: a day of calls: the law DaysRun is true for every list of numbers. -/
import Derived.Test.YtgdijjmdfcgifaaGreatSoXd
import Derived.Test.YtgdijjmdfcgifaaGreatXdh9
import Derived.Test.YtgdijjmdfcgifaaGreatXdl
namespace Go.Proofs.YtgdijjmdfcgifaaGreat
set_option linter.unusedVariables false
set_option maxRecDepth 20000
theorem y1h {α:Type} (A B:List α) (u:α):(A++u::B)[A.length]?=some u:=by simp
theorem w17 {α:Type} {A B:List α} {u:α} {j:Nat} {w:α} (h:(A++u::B)[j]?=some w) (hj:j < A.length):w∈A:=by
 rw [List.getElem?_append_left hj] at h
 exact List.mem_of_getElem? h
theorem w18 {α:Type} {A B:List α} {u:α} {j:Nat} {w:α} (h:(A++u::B)[j]?=some w) (hj:A.length < j):w∈B:=by
 rw [List.getElem?_append_right (by omega),show j - A.length=(j - A.length - 1)+1 by omega,List.getElem?_cons_succ] at h
 exact List.mem_of_getElem? h
theorem w03 {α:Type} (A B:List α) (u:α):(A++u::B).eraseIdx A.length=A++B:=by
 induction A with
 | nil=>rfl
 | cons a A ih=>simp only [List.cons_append,List.length_cons,List.eraseIdx_cons_succ,ih]
theorem y8h:∀ (n:Nat) (l:List Nat),l.Nodup→(∀ x,x∈l→x < n)→l.length≤n
 | 0,l,_,h=>by
  cases l with
  | nil=>simp
  | cons x l=>have:=h x (by simp); omega
 | n+1,l,hn,h=>by
  have h1:=y8h n (l.erase n) (hn.erase n) fun x hx=>by
   have h2:=(hn.mem_erase_iff).1 hx
   have:=h x h2.2
   omega
  have h3:l.length≤(l.erase n).length+1:=by
   rw [List.length_erase]
   split <;> omega
  omega
section
variable {s:qb} {ph:List zz} {ats:List Int} {kk:Nat} {again:List Int} {way A B:List qv} {sent:Int} {cs:List yj} {sd:qj} {bench:qn}
theorem x6c {u:qv} (hA:∀ w,w∈A→u.try_.Done < w.try_.Done) (hB:∀ w,w∈B→u.try_.Done≤w.try_.Done) (hn:(A++u::B).Pairwise fun a b=>a.number_ < b.number_):z3t (A++u::B)=some (A.length:Int):=by
 have hnB:∀ w,w∈B→u.number_ < w.number_:=(List.pairwise_cons.1 (List.pairwise_append.1 hn).2.1).1
 unfold z3t
 refine Yo (kg (I:=fun k (e:Int)=>(k=0∧e=-1)∨(0 < k∧k≤A.length∧∃ j:Nat,e=(j:Int)∧j < k)∨(A.length < k∧e=(A.length:Int))) (A++u::B) 0 (-1) (.inl ⟨rfl,rfl⟩) ?_ ?_)
 ·intro k x e _ hk hI
  have hk:(A++u::B)[k]?=some x:=by simpa using hk
  have hkl:=wq hk
  unfold z51
  rcases hI with ⟨rfl,rfl⟩ | ⟨h0,h1,j,rfl,h2⟩ | ⟨h1,rfl⟩
  ·rw [if_pos (by simp)]
   refine yc ?_
   by_cases ha:A.length=0
   ·exact .inr (.inr ⟨by omega,by omega⟩)
   ·exact .inr (.inl ⟨by omega,by omega,0,rfl,by omega⟩)
  ·obtain ⟨w,hw⟩:∃ w,(A++u::B)[j]?=some w:=⟨_,List.getElem?_eq_getElem (by omega)⟩
   have hwA:=hA w (w17 hw (by omega))
   rw [if_neg (by simp),vz,hw]
   simp only [Option.bind_some]
   by_cases hka:k=A.length
   ·subst hka
    rw [y1h] at hk; cases hk
    rw [if_pos (by simpa using hwA)]
    exact yc (.inr (.inr ⟨by omega,rfl⟩))
   ·have hin:∀ (e:Int),(∃ j:Nat,e=(j:Int)∧j < k+1)→Ok (some (.inl e):Option (Int ⊕ Int)) (rd (fun e=>(k+1=0∧e=-1)∨(0 < k+1∧k+1≤A.length∧∃ j:Nat,e=(j:Int)∧j < k+1)∨(A.length < k+1∧e=(A.length:Int))) fun r=>r=(A.length:Int)):=
     fun e he=>yc (.inr (.inl ⟨by omega,by omega,he⟩))
    refine wi (fun _=>hin _ ⟨k,rfl,by omega⟩) fun _=>wi (fun _=>wi (fun _=>hin _ ⟨k,rfl,by omega⟩) fun _=>hin _ ⟨j,rfl,by omega⟩) fun _=>hin _ ⟨j,rfl,by omega⟩
  ·have hx:=w18 hk h1
   have b1:=hB x hx
   have b2:=hnB x hx
   rw [if_neg (by simp),vz,y1h]
   simp only [Option.bind_some]
   rw [if_neg (by simp; omega)]
   refine wi (fun _ => ?_) fun _=>yc (.inr (.inr ⟨by omega,rfl⟩))
   rw [if_neg (by simp; omega)]
   exact yc (.inr (.inr ⟨by omega,rfl⟩))
 ·intro e hI
  unfold z3g
  refine yc ?_
  simp only [Nat.zero_add,List.length_append,List.length_cons] at hI
  rcases hI with ⟨h,_⟩ | ⟨_,h,_⟩ | ⟨_,h⟩
  ·omega
  ·omega
  ·exact h
theorem x6d (way:List qv):Ok (z3t way) fun e=>(way=[]∧e=-1)∨∃ (j:Nat) (w:qv),e=(j:Int)∧way[j]?=some w:=by
 unfold z3t
 refine kg (I:=fun k (e:Int)=>(k=0∧e=-1)∨∃ (j:Nat) (w:qv),e=(j:Int)∧way[j]?=some w) way 0 (-1) (.inl ⟨rfl,rfl⟩) ?_ ?_
 ·intro k x e _ hk hI
  have hk:way[k]?=some x:=by simpa using hk
  unfold z51
  rcases hI with ⟨rfl,rfl⟩ | ⟨j,w,rfl,hw⟩
  ·rw [if_pos (by simp)]
   exact yc (.inr ⟨0,x,rfl,hk⟩)
  ·rw [if_neg (by simp),vz,hw]
   simp only [Option.bind_some]
   refine wi (fun _=>yc (.inr ⟨k,x,rfl,hk⟩)) fun _=>wi (fun _=>wi (fun _=>yc (.inr ⟨k,x,rfl,hk⟩)) fun _=>yc (.inr ⟨j,w,rfl,hw⟩)) fun _=>yc (.inr ⟨j,w,rfl,hw⟩)
 ·intro e hI
  unfold z3g
  refine yc ?_
  rcases hI with ⟨h,rfl⟩ | h
  ·exact .inl ⟨List.length_eq_zero_iff.1 (by omega),rfl⟩
  ·exact .inr h
theorem x6b {next:List Int} {k:Nat} {y:Int} (hk:next[k]?=some y) (h0:0≤y) (hz:∀ (i:Nat) x,next[i]?=some x→0≤x→y≤x∧(i < k→y < x)):z1u next=some (k:Int):=by
 have hkl:=wq hk
 unfold z1u
 refine Yo (kg (I:=fun m (e:Int)=>(m≤k∧e=-1)∨(m≤k∧∃ (j:Nat) (z:Int),e=(j:Int)∧next[j]?=some z∧y < z)∨(k < m∧e=(k:Int))) next 0 (-1) (.inl ⟨by omega,rfl⟩) ?_ ?_)
 ·intro m x e _ hm hI
  have hm:next[m]?=some x:=by simpa using hm
  unfold z50
  by_cases hx:0≤x
  ·obtain ⟨z1,z2⟩:=hz m x hm hx
   rw [if_pos (by simpa using hx)]
   rcases hI with ⟨h1,rfl⟩ | ⟨h1,j,z,rfl,h2,h3⟩ | ⟨h1,rfl⟩
   ·rw [if_pos (by simp)]
    refine yc ?_
    by_cases he:m=k
    ·subst he; exact .inr (.inr ⟨by omega,rfl⟩)
    ·exact .inr (.inl ⟨by omega,m,x,rfl,hm,z2 (by omega)⟩)
   ·rw [if_neg (by simp),vz,h2]
    simp only [Option.bind_some]
    by_cases he:m=k
    ·subst he
     rw [hk] at hm; cases hm
     rw [if_pos (by simpa using h3)]
     exact yc (.inr (.inr ⟨by omega,rfl⟩))
    ·refine wi (fun _=>yc (.inr (.inl ⟨by omega,m,x,rfl,hm,z2 (by omega)⟩))) fun _=>yc (.inr (.inl ⟨by omega,j,z,rfl,h2,h3⟩))
   ·rw [if_neg (by simp),vz,hk]
    simp only [Option.bind_some]
    rw [if_neg (by simp; omega)]
    exact yc (.inr (.inr ⟨by omega,rfl⟩))
  ·rw [if_neg (by simpa using hx)]
   have hne:m≠k:=by
    rintro rfl
    rw [hk] at hm; cases hm; exact hx h0
   refine yc ?_
   rcases hI with ⟨h1,rfl⟩ | ⟨h1,h2⟩ | ⟨h1,rfl⟩
   ·exact .inl ⟨by omega,rfl⟩
   ·exact .inr (.inl ⟨by omega,h2⟩)
   ·exact .inr (.inr ⟨by omega,rfl⟩)
 ·intro e hI
  unfold z3g
  refine yc ?_
  rcases hI with ⟨h,_⟩ | ⟨h,_⟩ | ⟨_,h⟩
  ·omega
  ·omega
  ·exact h
theorem y7x (next:List Int):Ok (z1u next) fun e=>(e=-1∧∀ x,x∈next→x < 0)∨∃ (j:Nat) (y:Int),e=(j:Int)∧next[j]?=some y∧0≤y:=by
 unfold z1u
 refine kg (I:=fun m (e:Int)=>(e=-1∧∀ (i:Nat) x,i < m→next[i]?=some x→x < 0)∨∃ (j:Nat) (y:Int),e=(j:Int)∧next[j]?=some y∧0≤y) next 0 (-1) (.inl ⟨rfl,fun i x h=>by omega⟩) ?_ ?_
 ·intro m x e _ hm hI
  have hm:next[m]?=some x:=by simpa using hm
  unfold z50
  by_cases hx:0≤x
  ·rw [if_pos (by simpa using hx)]
   rcases hI with ⟨rfl,h1⟩ | ⟨j,y,rfl,h2,h3⟩
   ·rw [if_pos (by simp)]
    exact yc (.inr ⟨m,x,rfl,hm,hx⟩)
   ·rw [if_neg (by simp),vz,h2]
    simp only [Option.bind_some]
    exact wi (fun _=>yc (.inr ⟨m,x,rfl,hm,hx⟩)) fun _=>yc (.inr ⟨j,y,rfl,h2,h3⟩)
  ·rw [if_neg (by simpa using hx)]
   refine yc ?_
   rcases hI with ⟨rfl,h1⟩ | h2
   ·refine .inl ⟨rfl,fun i z hi hz => ?_⟩
    by_cases he:i=m
    ·subst he
     rw [hm] at hz; cases hz; omega
    ·exact h1 i z (by omega) hz
   ·exact .inr h2
 ·intro e hI
  unfold z3g
  refine yc ?_
  rcases hI with ⟨rfl,h⟩ | h
  ·refine .inl ⟨rfl,fun x hx => ?_⟩
   obtain ⟨i,hi⟩:=List.getElem?_of_mem hx
   exact h i x (by have:=wq hi; omega) hi
  ·exact .inr h
def gO (cs:List yj) (way:List qv) (sent:Int) (again:List Int) (bench:qn):StG:=(cs.map (·.out_),cs.map nx,way,sent,again,bench)
theorem y8g {k:Nat} {c:yj} (hc:cs[k]?=some c):(cs.map nx)[k]?=some (nx c):=by rw [List.getElem?_map,hc]; rfl
theorem y75 {k:Nat} {c:yj} (hc:cs[k]?=some c):(cs.map (·.out_))[k]?=some c.out_:=by rw [List.getElem?_map,hc]; rfl
theorem y6x (D:DC s ph ats) {u:qv} (h:DyI s kk again (A++u::B) sent cs sd bench) {k:Nat} (hk:u.call_=(k:Int)) {c:yj} (hc:cs[k]?=some c)
  (hA:∀ w,w∈A→u.try_.Done < w.try_.Done) (hB:∀ w,w∈B→u.try_.Done≤w.try_.Done) (hz:∀ c,c∈cs→c.state_=0→u.try_.Done≤c.start_) :
  ∃ again' sd' bench' c',Wd s ats again sd c (tO s.Instances u)=some (again',sd',c')∧ud s ph ats (gO cs (A++u::B) sent again bench)=some (.inl (gO (cs.set k c') (A++B) sent again' bench')) ∧
   DyI s (kk+1) again' (A++B) sent (cs.set k c') sd' bench'∧c'.state_≠1∧(c'.state_=0→u.try_.Done≤c'.start_):=by
 obtain ⟨again',sd',bench',c',q1,q2,q3,q4,q5⟩:=w04 D h hk hc
 refine ⟨again',sd',bench',c',q1,?_,q3,q4,q5⟩
 obtain ⟨w1,w2,w3,c0,w4,w5,w6⟩:=h.wy u (by simp)
 rw [hk,Int.toNat_natCast,hc] at w4
 cases w4
 have hwl:=h.wl
 have hmu:=h.mu
 have hnl:=h.nl
 have hkl:=wq hc
 obtain ⟨e,he,hs⟩:=y7x (cs.map nx)
 have hdue:z1z (A++u::B) (cs.map nx) (A.length:Int) e=some true:=by
  unfold z1z
  rw [if_pos (by simp)]
  rcases hs with ⟨rfl,_⟩ | ⟨j,y,rfl,hy,hy0⟩
  ·rw [if_pos (by simp)]
  ·rw [if_neg (by simp),vz,y1h,vz,hy]
   simp only [Option.bind_some]
   rw [List.getElem?_map] at hy
   obtain ⟨d,hd,rfl⟩:=Option.map_eq_some_iff.1 hy
   unfold nx at hy0 ⊢
   by_cases h0:d.state_=0
   ·rw [if_pos h0]
    have:=hz d (List.mem_of_getElem? hd) h0
    simpa using this
   ·rw [if_neg h0] at hy0; omega
 have hst:Wb s ph ats (gO cs (A++u::B) sent again bench)=some (gO (cs.set k c') (A++B) sent again' bench',true):=by
  unfold Wb gO
  simp only
  rw [if_pos ⟨by omega,by rw [List.length_map]; omega⟩,x6c hA hB h.nr]
  simp only [Option.bind_some]
  rw [he]
  simp only [Option.bind_some]
  rw [hdue]
  simp only [Option.bind_some,if_true]
  rw [vz,y1h]
  simp only [Option.bind_some]
  rw [hk,vz,y75 hc]
  simp only [Option.bind_some]
  rw [if_pos (by rw [List.length_map]; omega),q2]
  simp only [Option.bind_some,Int.toNat_natCast]
  rw [w03,List.map_set,List.map_set]
  have hnx:z9r (cs.map nx) k (if c'.state_=0 then some c'.start_ else none)=(cs.map nx).set k (nx c'):=by
   unfold nx
   by_cases h0:c'.state_=0
   ·rw [if_pos h0,if_pos h0]; rfl
   ·rw [if_neg h0,if_neg h0]
    have h1:=y8g hc
    unfold nx at h1
    rw [if_neg (by omega)] at h1
    exact (y6z h1).symm
  rw [hnx]
 unfold ud
 rw [hst]
 rfl
theorem y6w (h:DyI s kk again way sent cs sd bench) {k:Nat} {c:yj} (hc:cs[k]?=some c) (h0:c.state_=0) (hw:∀ w,w∈way→c.start_ < w.try_.Done)
  (hz:∀ (i:Nat) d,cs[i]?=some d→d.state_=0→c.start_≤d.start_∧(i < k→c.start_ < d.start_)) {way':List qv} {sent':Int} {c':yj} (hd:Ys s ph bench c.out_ way sent (k:Int) c.start_=some (c'.out_,way',sent')) (hn:c'.state_≠0) :
  ud s ph ats (gO cs way sent again bench)=some (.inl (gO (cs.set k c') way' sent' again bench)):=by
 have hwl:=h.wl
 have hmu:=h.mu
 have hnl:=h.nl
 have hkl:=wq hc
 have hcs:=(h.z k c hc h0).2
 have hnk:(cs.map nx)[k]?=some c.start_:=by rw [y8g hc]; unfold nx; rw [if_pos h0]
 have hS:z1u (cs.map nx)=some (k:Int):=x6b hnk hcs.1 fun i x hx hx0=>by
  rw [List.getElem?_map] at hx
  obtain ⟨d,hd,rfl⟩:=Option.map_eq_some_iff.1 hx
  unfold nx at hx0 ⊢
  by_cases hd0:d.state_=0
  ·rw [if_pos hd0]
   exact hz i d hd hd0
  ·rw [if_neg hd0] at hx0; omega
 obtain ⟨e,he,hs⟩:=x6d way
 have hdue:z1z way (cs.map nx) e (k:Int)=some false:=by
  unfold z1z
  rcases hs with ⟨_,rfl⟩ | ⟨j,w,rfl,hj⟩
  ·rw [if_neg (by simp)]
  ·rw [if_pos (by simp),if_neg (by simp),vz,hj,vz,hnk]
   simp only [Option.bind_some]
   have:=hw w (List.mem_of_getElem? hj)
   rw [decide_eq_false (by omega)]
 have hst:Wb s ph ats (gO cs way sent again bench)=some (gO (cs.set k c') way' sent' again bench,true):=by
  unfold Wb gO
  simp only
  rw [if_pos ⟨by omega,by rw [List.length_map]; omega⟩,he]
  simp only [Option.bind_some]
  rw [hS]
  simp only [Option.bind_some]
  rw [hdue]
  simp only [Option.bind_some,Bool.false_eq_true,if_false]
  rw [if_pos (by simp),vz,hnk]
  simp only [Option.bind_some]
  rw [vz,y75 hc]
  simp only [Option.bind_some]
  rw [hd]
  simp only [Option.bind_some,Int.toNat_natCast]
  rw [List.map_set,List.map_set]
  have:nx c'=-1:=by unfold nx; rw [if_neg hn]
  rw [this]
 unfold ud
 rw [hst]
 rfl
theorem x48 (h:DyI s kk again [] sent cs sd bench) (hz:∀ c,c∈cs→c.state_≠0):ud s ph ats (gO cs [] sent again bench)=some (.inr (gO cs [] sent again bench)):=by
 have hnl:=h.nl
 have hS:z1u (cs.map nx)=some (-1):=by
  obtain ⟨e,he,hs⟩:=y7x (cs.map nx)
  rcases hs with ⟨rfl,_⟩ | ⟨j,y,rfl,hy,hy0⟩
  ·exact he
  ·rw [List.getElem?_map] at hy
   obtain ⟨d,hd,rfl⟩:=Option.map_eq_some_iff.1 hy
   unfold nx at hy0
   rw [if_neg (hz d (List.mem_of_getElem? hd))] at hy0
   omega
 have hE:z3t []=some (-1):=rfl
 have hst:Wb s ph ats (gO cs [] sent again bench)=some (gO cs [] sent again bench,false):=by
  unfold Wb gO
  simp only
  rw [if_pos ⟨by simp,by rw [List.length_map]; omega⟩,hE]
  simp only [Option.bind_some]
  rw [hS]
  simp only [Option.bind_some]
  unfold z1z
  rw [if_neg (by simp)]
  simp only [Option.bind_some,Bool.false_eq_true,if_false]
  rw [if_neg (by simp)]
 unfold ud
 rw [hst]
 rfl
theorem x5a (D:DC s ph ats) (h:DyI s kk again way sent cs sd bench) {k:Nat} {c:yj} (hc:cs[k]?=some c) (h0:c.state_=0) (hw:∀ w,w∈way→c.start_ < w.try_.Done)
  (hz:∀ (i:Nat) d,cs[i]?=some d→d.state_=0→c.start_≤d.start_∧(i < k→c.start_ < d.start_)) :
  ∃ kk' again' way' sent' sd' bench' c',We s ph ats again (way.map (tO s.Instances)) sd c (k:Int) c.start_=some (again',way'.map (tO s.Instances),sd',c')∧iter (ud s ph ats) (gO cs way sent again bench)=iter (ud s ph ats) (gO (cs.set k c') way' sent' again' bench') ∧
   DyI s kk' again' way' sent' (cs.set k c') sd' bench'∧kk < kk'∧(∀ w,w∈way'→c.start_ < w.try_.Done)∧(c'.state_=0→c.start_≤c'.start_)∧(way'=way∨∃ u,way'=way++[u]∧u.try_.Sent=c.start_):=by
 have hwl:=h.wl
 have hmu:=h.mu
 rcases x49 D h hc h0 with ⟨st,q1,q2,q3⟩ | ⟨i,x,e,st,hx,he,q1,q2,q3⟩
 ·refine ⟨kk+1,again,way,sent,sd,bench,_,q1,Yw (y6w h hc h0 hw hz q2 ?_),q3,by omega,hw,fun h2 => ?_,.inl rfl⟩
  ·show (2:Int)≠0; omega
  ·have h2:(2:Int)=0:=h2
   omega
 ·have hil:=wq hx
  have hxl:=D.ins.len
  have hs1:=y6w (ats:=ats) h hc h0 hw hz (c':=⟨1,c.start_,ptG c.tried_ (i:Int) true,c.out_⟩) q2 (by show (1:Int)≠0; omega)
  have hix:ixK s.Instances x.Key=(i:Int):=z13 D.ins.srt hx
  have htO:tO s.Instances ⟨(k:Int),sent,⟨x.Key,c.start_,e,st⟩⟩=⟨(k:Int),(i:Int),c.start_,e,st⟩:=by
   unfold tO; rw [hix]
  by_cases hev:e=c.start_
  ·subst hev
   have hc1:(cs.set k ⟨1,c.start_,ptG c.tried_ (i:Int) true,c.out_⟩)[k]?=some ⟨1,c.start_,ptG c.tried_ (i:Int) true,c.out_⟩:=List.getElem?_set_self (wq hc)
   obtain ⟨again',sd',bench',c',r1,r2,r3,r4,r5⟩:=y6x (B:=[]) D q3 rfl hc1 (fun w hw'=>hw w hw') (fun w hw'=>by cases hw') (fun d hd hd0=>by
    rcases List.mem_or_eq_of_mem_set hd with hd | hd
    ·obtain ⟨j,hj⟩:=List.getElem?_of_mem hd
     exact (hz j d hj hd0).1
    ·rw [hd] at hd0
     have hd0:(1:Int)=0:=hd0
     omega)
   rw [List.append_nil,List.set_set] at r2 r3
   rw [htO] at r1
   refine ⟨kk+1+1,again',way,sent+1,sd',bench',c',?_,(Yw hs1).trans (Yw r2),r3,by omega,hw,r5,.inl rfl⟩
   rw [q1]
   unfold uk
   rw [if_pos (by omega),if_pos (by simp),r1]
   rfl
  ·refine ⟨kk+1,again,_,sent+1,sd,bench,⟨1,c.start_,ptG c.tried_ (i:Int) true,c.out_⟩,?_,Yw hs1,q3,by omega,fun w hw' => ?_,fun h2 => ?_,.inr ⟨_,rfl,rfl⟩⟩
   ·rw [q1]
    unfold uk
    rw [if_pos (by omega),if_neg (by simpa using hev),if_pos (by rw [List.length_map]; omega),List.map_append,List.map_cons,List.map_nil,htO]
   ·rcases List.mem_append.1 hw' with hw' | hw'
    ·exact hw w hw'
    ·simp at hw'; subst hw'
     show c.start_ < e; omega
   ·have h2:(1:Int)=0:=h2
    omega
def atD (v:Int) (w:qv):Bool:=decide (w.try_.Done=v)
def atN (v:Int) (w:qv):Bool := !decide (w.try_.Done=v)
theorem x0n (D:DC s ph ats) (v:Int) (sent:Int):∀ (n:Nat) (way:List qv) (kk:Nat) (again:List Int) (cs:List yj) (sd:qj) (bench:qn) (j:Nat),(way.filter (atD v)).length=n→DyI s kk again way sent cs sd bench →
  (∀ w,w∈way→v≤w.try_.Done)→(∀ c,c∈cs→c.state_=0→v≤c.start_) →
  ∃ again' cs' sd' bench',forL (z2g s ats cs.length) x0o j ((way.filter (atD v)).map (tO s.Instances)) (again,sd,cs)=some (again',sd',cs')∧iter (ud s ph ats) (gO cs way sent again bench)=iter (ud s ph ats) (gO cs' (way.filter (atN v)) sent again' bench') ∧
   DyI s (kk+n) again' (way.filter (atN v)) sent cs' sd' bench'∧cs'.length=cs.length∧(∀ c,c∈cs'→c.state_=0→v≤c.start_)
 | 0,way,kk,again,cs,sd,bench,j,hn,h,hw,hz=>by
  have he:=List.length_eq_zero_iff.1 hn
  have hN:way.filter (atN v)=way:=by
   rw [List.filter_eq_self]
   intro w hw
   have:=(List.filter_eq_nil_iff.1 he) w hw
   unfold atD at this
   unfold atN
   simpa using this
  rw [he,hN]
  exact ⟨again,cs,sd,bench,rfl,rfl,h,rfl,hz⟩
 | n+1,way,kk,again,cs,sd,bench,j,hn,h,hw,hz=>by
  cases hf:way.filter (atD v) with
  | nil=>rw [hf] at hn; cases hn
  | cons u rest =>
   rw [hf] at hn
   obtain ⟨A,B,rfl,a1,a2,a3⟩:=List.filter_eq_cons_iff.1 hf
   have hu:u.try_.Done=v:=by simpa [atD] using a2
   have hA:∀ w,w∈A→u.try_.Done < w.try_.Done:=fun w hw'=>by
    have h1:=a1 w hw'
    have h2:=hw w (by simp [hw'])
    unfold atD at h1
    simp at h1
    omega
   obtain ⟨w1,w2,w3,c,w4,w5,w6⟩:=h.wy u (by simp)
   obtain ⟨k,hk⟩:∃ k:Nat,u.call_=(k:Int):=⟨u.call_.toNat,by omega⟩
   rw [hk,Int.toNat_natCast] at w4
   obtain ⟨again1,sd1,bench1,c1,q1,q2,q3,q4,q5⟩:=y6x D h hk w4 hA (fun w hw'=>by rw [hu]; exact hw w (by simp [hw'])) (fun d hd hd0=>by rw [hu]; exact hz d hd hd0)
   have hkl:=wq w4
   have hfA:A.filter (atD v)=[]:=List.filter_eq_nil_iff.2 a1
   have hf2:(A++B).filter (atD v)=rest:=by rw [List.filter_append,hfA,List.nil_append,a3]
   have hN2:(A++B).filter (atN v)=(A++u::B).filter (atN v):=by
    rw [List.filter_append,List.filter_append,List.filter_cons_of_neg]
    unfold atN
    simp [hu]
   obtain ⟨again2,cs2,sd2,bench2,r1,r2,r3,r4,r5⟩:=x0n D v sent n (A++B) (kk+1) again1 (cs.set k c1) sd1 bench1 (j+1) (by rw [hf2]; simpa using hn) q3 (fun w hw'=>hw w (z8u.subset hw')) (fun d hd hd0=>by
    rcases List.mem_or_eq_of_mem_set hd with hd | hd
    ·exact hz d hd hd0
    ·rw [hd] at hd0 ⊢
     rw [← hu]
     exact q5 hd0)
   rw [hf2,List.length_set] at r1
   rw [hN2] at r2 r3
   refine ⟨again2,cs2,sd2,bench2,?_,(Yw q2).trans r2,by rw [show kk+(n+1)=kk+1+n by omega]; exact r3,by rw [r4,List.length_set],r5⟩
   show (z2g s ats cs.length j (tO s.Instances u) (again,sd,cs)).bind _=_
   have e:z2g s ats cs.length j (tO s.Instances u) (again,sd,cs)=some (.inl (again1,sd1,cs.set k c1)):=by
    unfold z2g
    have e1:(tO s.Instances u).call_=(k:Int):=hk
    rw [e1,Int.toNat_natCast,if_pos hkl]
    simp only
    rw [vz,w4]
    simp only [Option.bind_some]
    rw [q1]
    rfl
   rw [e]
   exact r1
theorem x1g {p:zt→zt→Option Int}:∀ (l:List zt),l.Pairwise (fun a b=>∃ c,p b a=some c∧¬ c < 0)→adjS p l
 | [],_=>trivial
 | [x],_=>trivial
 | x::y::l,h=>by
  obtain ⟨h1,h2⟩:=List.pairwise_cons.1 h
  exact ⟨h1 y (by simp),x1g (y::l) h2⟩
theorem x5b (l:List zt) (hl:l.length≤19) (h:l.Pairwise fun a b=>a.sent_≤b.sent_):z1t l Yr=some l:=by
 have hp:∀ a b:zt,Yr a b=some (if a.sent_ < b.sent_ then -1 else if b.sent_ < a.sent_ then 1 else 0):=fun a b=>by
  unfold Yr y0d z7b
  simp only [Option.bind_some,ne_eq,not_true_eq_false,decide_false,Bool.false_eq_true,if_false]
  by_cases h1:a.sent_ < b.sent_
  ·simp [h1]
  ·by_cases h2:b.sent_ < a.sent_
   ·simp [h1,h2]
   ·simp [h1,h2]
 have had:adjS Yr l:=x1g l (h.imp fun {a b} hab=>⟨_,hp b a,by
  rw [if_neg (by omega)]
  split <;> omega⟩)
 have e:z9z l (l.length:Int) Yr=some l:=w0k l l Yr hl (w0o l (by omega) had) rfl
 unfold z1t
 rw [e]
 simp only [Option.bind_some]
 exact if_pos trivial
theorem w0t (cs:List yj) (hl:cs.length≤1000) (v:Int):Ok (y3t cs v) fun r=>(r=-1∧∀ c,c∈cs→c.state_=0→c.start_≠v)∨∃ (k:Nat) (c:yj),r=(k:Int)∧cs[k]?=some c∧c.state_=0∧c.start_=v∧∀ (i:Nat) d,i < k→cs[i]?=some d→d.state_=0→d.start_≠v:=by
 unfold y3t z91
 refine ok_g (by rw [List.length_map]; omega) ?_
 refine kg (I:=fun k (_:Unit)=>∀ (i:Nat) d,i < k→cs[i]?=some d→d.state_=0→d.start_≠v) (cs.map some) 0 () (fun i d h=>by omega) ?_ ?_
 ·intro k x q _ hk hI
  have hk:(cs.map some)[k]?=some x:=by simpa using hk
  rw [List.getElem?_map] at hk
  obtain ⟨c,hc,rfl⟩:=Option.map_eq_some_iff.1 hk
  unfold z85 y1a z9w
  simp only [Option.bind_some]
  refine wi (fun h=>yc ?_) (fun h=>yc ?_)
  ·simp only [Bool.and_eq_true,decide_eq_true_eq] at h
   exact .inr ⟨k,c,rfl,hc,h.1,h.2,hI⟩
  ·intro i d hi hd hd0
   by_cases he:i=k
   ·subst he
    rw [hc] at hd; cases hd
    simp only [Bool.and_eq_true,decide_eq_true_eq,not_and] at h
    exact h hd0
   ·exact hI i d (by omega) hd hd0
 ·intro q hI
  unfold z86
  refine yc (.inl ⟨rfl,fun c hc hc0 => ?_⟩)
  obtain ⟨i,hi⟩:=List.getElem?_of_mem hc
  exact hI i c (by have:=wq hi; rw [List.length_map]; omega) hi hc0
theorem y6y (D:DC s ph ats) (v:Int) (nb:Nat):∀ (n:Nat) (kk:Nat) (again:List Int) (way:List qv) (sent:Int) (cs:List yj) (sd:qj) (bench:qn),100 - kk < n→cs.length=nb→DyI s kk again way sent cs sd bench →
  (∀ w,w∈way→v < w.try_.Done)→(∀ c,c∈cs→c.state_=0→v≤c.start_)→(way.Pairwise fun a b=>a.try_.Sent≤b.try_.Sent)→(∀ w,w∈way→w.try_.Sent≤v) →
  ∃ kk' again' way' sent' cs' sd' bench',z9y s ph ats nb (again,way.map (tO s.Instances),sd,cs) v=some (again',way'.map (tO s.Instances),sd',cs')∧iter (ud s ph ats) (gO cs way sent again bench)=iter (ud s ph ats) (gO cs' way' sent' again' bench') ∧
   DyI s kk' again' way' sent' cs' sd' bench'∧cs'.length=nb∧kk≤kk'∧((∃ c,c∈cs∧c.state_=0∧c.start_=v)→kk < kk')∧(∀ w,w∈way'→v < w.try_.Done)∧(∀ c,c∈cs'→c.state_=0→v < c.start_)∧(way'.Pairwise fun a b=>a.try_.Sent≤b.try_.Sent)∧(∀ w,w∈way'→w.try_.Sent≤v)
 | 0,kk,again,way,sent,cs,sd,bench,hn,hnb,h,hw,hz,hp,hs=>by omega
 | n+1,kk,again,way,sent,cs,sd,bench,hn,hnb,h,hw,hz,hp,hs=>by
  have hmu:=h.mu
  have hnl:=h.nl
  obtain ⟨r,hr,hq⟩:=w0t cs (by omega) v
  rcases hq with ⟨rfl,hq⟩ | ⟨k,c,rfl,hc,h0,hv,hq⟩
  ·refine ⟨kk,again,way,sent,cs,sd,bench,?_,rfl,h,hnb,by omega,fun ⟨c,hc,hc0,hcv⟩=>absurd hcv (hq c hc hc0),hw,fun c hc hc0 => ?_,hp,hs⟩
   ·refine Wg ?_
    unfold z5r
    rw [if_pos hnb.symm]
    simp only
    rw [hr]
    simp only [Option.bind_some]
    rw [if_pos (by simp)]
   ·have h1:=hz c hc hc0
    have h2:=hq c hc hc0
    omega
  ·obtain ⟨kk1,again1,way1,sent1,sd1,bench1,c1,q1,q2,q3,q4,q5,q6,q7⟩:=x5a D h hc h0 (fun w hw'=>by rw [hv]; exact hw w hw') (fun i d hd hd0=>by
    have h1:=hz d (List.mem_of_getElem? hd) hd0
    refine ⟨by omega,fun hik => ?_⟩
    have h2:=hq i d hik hd hd0
    omega)
   have hm1:=q3.mu
   rw [hv] at q5 q6 q7
   have hp1:(way1.Pairwise fun a b=>a.try_.Sent≤b.try_.Sent)∧∀ w,w∈way1→w.try_.Sent≤v:=by
    rcases q7 with rfl | ⟨u,rfl,hu⟩
    ·exact ⟨hp,hs⟩
    ·refine ⟨List.pairwise_append.2 ⟨hp,by simp,fun a ha b hb => ?_⟩,fun w hw' => ?_⟩
     ·simp at hb; subst hb
      rw [hu]; exact hs a ha
     ·rcases List.mem_append.1 hw' with hw' | hw'
      ·exact hs w hw'
      ·simp at hw'; subst hw'
       omega
   obtain ⟨kk2,again2,way2,sent2,cs2,sd2,bench2,r1,r2,r3,r4,r5,r6,r7,r8,r9,r10⟩:=y6y D v nb n kk1 again1 way1 sent1 (cs.set k c1) sd1 bench1 (by omega) (by rw [List.length_set]; exact hnb) q3 q5 (fun d hd hd0=>by
    rcases List.mem_or_eq_of_mem_set hd with hd | hd
    ·exact hz d hd hd0
    ·rw [hd] at hd0 ⊢
     exact q6 hd0) hp1.1 hp1.2
   refine ⟨kk2,again2,way2,sent2,cs2,sd2,bench2,?_,q2.trans r2,r3,r4,by omega,fun _=>by omega,r7,r8,r9,r10⟩
   refine (Yw ?_).trans r1
   unfold z5r
   rw [if_pos hnb.symm]
   simp only
   rw [hr]
   simp only [Option.bind_some]
   rw [if_neg (by simp),vz,hc]
   simp only [Option.bind_some]
   rw [← hv,q1]
   rfl
def lowI (T:Int×Bool) (l:List Int):Prop:=(T.2=false→l=[])∧(T.2=true→T.1∈l∧∀ x,x∈l→T.1≤x)
theorem y7b {T:Int×Bool} {l:List Int} (h:lowI T l) (m:Int):lowI (seeN m T) (l++[m]):=by
 unfold seeN
 by_cases hc:(!T.2 || decide (m < T.1))=true
 ·rw [if_pos hc]
  refine ⟨fun h=>(by cases h),fun _=>⟨by simp,fun x hx => ?_⟩⟩
  show m≤x
  rcases List.mem_append.1 hx with hx | hx
  ·cases hT:T.2
   ·rw [h.1 hT] at hx; cases hx
   ·rw [hT] at hc
    simp at hc
    have:=(h.2 hT).2 x hx
    omega
  ·simp at hx; omega
 ·rw [if_neg hc]
  simp only [Bool.or_eq_true,Bool.not_eq_true',decide_eq_true_eq,not_or] at hc
  have hT:T.2=true:=by cases h:T.2 <;> simp_all
  refine ⟨fun h=>(by rw [hT] at h; cases h),fun _=>⟨by simp [(h.2 hT).1],fun x hx => ?_⟩⟩
  rcases List.mem_append.1 hx with hx | hx
  ·exact (h.2 hT).2 x hx
  ·simp at hx; omega
def momS (ts:List zt) (cs:List yj):List Int:=ts.map (·.end_)++(cs.filter fun c=>decide (c.state_=0)).map (·.start_)
theorem y8i (ts:List zt) (cs:List yj) (h1:ts.length≤1000) (h2:cs.length≤1000):Ok (z3u ts cs) fun T=>lowI T (momS ts cs):=by
 unfold z3u
 refine ok_g ⟨by omega,by omega⟩ ?_
 refine yk (Q:=fun T=>lowI T (ts.map (·.end_))) ?_ fun T hT => ?_
 ·refine kg (I:=fun k (T:Int×Bool)=>lowI T ((ts.take k).map (·.end_))) ts 0 (0,false) ⟨fun _=>rfl,fun h=>by cases h⟩ ?_ ?_
  ·intro j x T _ hj hI
   have hj:ts[j]?=some x:=by simpa using hj
   unfold y8j
   refine yc ?_
   show lowI _ ((ts.take (j+1)).map (·.end_))
   rw [List.take_add_one,hj,List.map_append]
   exact y7b hI x.end_
  ·intro T hI
   unfold z9q
   rw [Nat.zero_add,List.take_length] at hI
   exact yc hI
 ·refine kg (I:=fun k (T:Int×Bool)=>lowI T (ts.map (·.end_)++((cs.take k).filter fun c=>decide (c.state_=0)).map (·.start_))) cs 0 T (by simpa using hT) ?_ ?_
  ·intro j x T _ hj hI
   have hj:cs[j]?=some x:=by simpa using hj
   have e:=z4s (fun c:yj=>decide (c.state_=0)) cs j x hj
   unfold z9p
   refine wi (fun h=>yc ?_) (fun h=>yc ?_)
   ·show lowI _ (ts.map (·.end_)++((cs.take (j+1)).filter fun c=>decide (c.state_=0)).map (·.start_))
    rw [e,if_pos h,List.map_append,← List.append_assoc]
    exact y7b hI x.start_
   ·show lowI _ (ts.map (·.end_)++((cs.take (j+1)).filter fun c=>decide (c.state_=0)).map (·.start_))
    rw [e,if_neg h,List.append_nil]
    exact hI
  ·intro T hI
   unfold z9q
   rw [Nat.zero_add,List.take_length] at hI
   exact yc hI
theorem x6w {xs:List zl} {w:qv} (hw:w∈way):w.try_.Done∈momS (way.map (tO xs)) cs:=List.mem_append_left _ (List.mem_map.2 ⟨tO xs w,List.mem_map.2 ⟨w,hw,rfl⟩,rfl⟩)
theorem x6x {ts:List zt} {c:yj} (hc:c∈cs) (h0:c.state_=0):c.start_∈momS ts cs:=List.mem_append_right _ (List.mem_map.2 ⟨c,List.mem_filter.2 ⟨hc,by simpa using h0⟩,rfl⟩)
theorem y7f (D:DC s ph ats) (nb:Nat):∀ (n:Nat) (kk:Nat) (again:List Int) (way:List qv) (sent:Int) (cs:List yj) (sd:qj) (bench:qn) (T:Int×Bool),100 - kk < n→cs.length=nb→DyI s kk again way sent cs sd bench →
  lowI T (momS (way.map (tO s.Instances)) cs)→(way.Pairwise fun a b=>a.try_.Sent≤b.try_.Sent)→(T.2=true→∀ w,w∈way→w.try_.Sent≤T.1)→way.length≤19→nb≤19 →
  ∃ kk' again' sent' cs' sd' bench',iter (z3e s ph ats nb) ((again,way.map (tO s.Instances),sd,cs),T)=some (again',[],sd',cs')∧iter (ud s ph ats) (gO cs way sent again bench)=some (gO cs' [] sent' again' bench')∧DyI s kk' again' [] sent' cs' sd' bench'∧cs'.length=nb
 | 0,kk,again,way,sent,cs,sd,bench,T,hn,_,_,_,_,_,_,_=>by omega
 | n+1,kk,again,way,sent,cs,sd,bench,T,hn,hnb,h,hT,hp,hs,h19,hn19=>by
  have hmu:=h.mu
  have hnl:=h.nl
  have hwl:=h.wl
  cases hT2:T.2
  ·have hm:=hT.1 hT2
   unfold momS at hm
   obtain ⟨m1,m2⟩:=List.append_eq_nil_iff.1 hm
   have hw:way=[]:=List.map_eq_nil_iff.1 (List.map_eq_nil_iff.1 m1)
   have hz:∀ c,c∈cs→c.state_≠0:=fun c hc h0=>by
    have:=(List.filter_eq_nil_iff.1 (List.map_eq_nil_iff.1 m2)) c hc
    simp at this
    exact this h0
   subst hw
   refine ⟨kk,again,sent,cs,sd,bench,Wg ?_,Wg (x48 h hz),h,hnb⟩
   unfold z3e
   simp only
   rw [hT2,if_neg (by simp),if_pos hnb.symm]
   rfl
  ·obtain ⟨hin,hlo⟩:=hT.2 hT2
   have hs:=hs hT2
   generalize hv:T.1=v at *
   have hw:∀ w,w∈way→v≤w.try_.Done:=fun w hw=>hlo _ (x6w hw)
   have hz:∀ c,c∈cs→c.state_=0→v≤c.start_:=fun c hc h0=>hlo _ (x6x hc h0)
   obtain ⟨again1,cs1,sd1,bench1,q1,q2,q3,q4,q5⟩:=x0n D v sent _ way kk again cs sd bench 0 rfl h hw hz
   have hfl:=List.length_filter_le (atD v) way
   have hmap:∀ (p:zt→Bool) (q:qv→Bool),(∀ w,p (tO s.Instances w)=q w)→(way.map (tO s.Instances)).filter p=(way.filter q).map (tO s.Instances):=fun p q hpq=>by
    rw [List.filter_map]
    congr 1
    exact List.filter_congr fun w _=>hpq w
   have e1:(way.map (tO s.Instances)).filter (eqE v)=(way.filter (atD v)).map (tO s.Instances):=hmap _ _ fun w=>rfl
   have e2:(way.map (tO s.Instances)).filter (neE v)=(way.filter (atN v)).map (tO s.Instances):=hmap _ _ fun w=>rfl
   have hends:z7a s ats nb (again,way.map (tO s.Instances),sd,cs) v=some (again1,sd1,cs1):=by
    unfold z7a
    simp only
    rw [if_pos (by rw [List.length_map]; omega),e1,x5b _ (by rw [List.length_map]; omega) (List.pairwise_map.2 ((hp.filter _).imp fun hab=>hab))]
    simp only [Option.bind_some]
    rw [if_pos (by rw [List.length_map]; omega),← hnb]
    exact q1
   obtain ⟨kk2,again2,way2,sent2,cs2,sd2,bench2,r1,r2,r3,r4,r5,r6,r7,r8,r9,r10⟩:=y6y D v nb _ (kk+(way.filter (atD v)).length) again1 (way.filter (atN v)) sent cs1 sd1 bench1 (Nat.lt_succ_self _) (q4.trans hnb) q3 (fun w hw'=>by
    obtain ⟨w1,w2⟩:=List.mem_filter.1 hw'
    have:=hw w w1
    unfold atN at w2
    simp at w2
    omega) q5 (hp.filter _) (fun w hw'=>hs w (List.mem_filter.1 hw').1)
   have hm2:=r3.mu
   have hwl2:=r3.wl
   obtain ⟨T2,t1,t2⟩:=y8i (way2.map (tO s.Instances)) cs2 (by rw [List.length_map]; omega) (by omega)
   have hkk:kk < kk2:=by
    by_cases hpos:0 < (way.filter (atD v)).length
    ·omega
    ·have hnil:=List.length_eq_zero_iff.1 (show (way.filter (atD v)).length=0 by omega)
     have hcs:cs1=cs:=by
      rw [hnil] at q1
      have q1:some (again,sd,cs)=some (again1,sd1,cs1):=q1
      cases q1; rfl
     refine Nat.lt_of_le_of_lt (Nat.le_add_right _ _) (r6 ?_)
     rw [hcs]
     unfold momS at hin
     rcases List.mem_append.1 hin with hin | hin
     ·obtain ⟨t,ht,hte⟩:=List.mem_map.1 hin
      obtain ⟨w,hw',rfl⟩:=List.mem_map.1 ht
      exfalso
      have:=(List.filter_eq_nil_iff.1 hnil) w hw'
      unfold atD at this
      have hte:w.try_.Done=v:=hte
      simp [hte] at this
     ·obtain ⟨c,hc,hce⟩:=List.mem_map.1 hin
      obtain ⟨c1,c2⟩:=List.mem_filter.1 hc
      exact ⟨c,c1,by simpa using c2,hce⟩
   have hlen2:way2.length≤19:=by
    have hd:=r3.dc
    have hlt:∀ w,w∈way2→0≤w.call_∧w.call_.toNat < nb:=fun w hw'=>by
     obtain ⟨_,b1,_,c,b2,_⟩:=r3.wy w hw'
     have:=wq b2
     exact ⟨b1,by omega⟩
    have hnd:(way2.map fun w=>w.call_.toNat).Nodup:=by
     refine List.pairwise_map.2 (hd.imp_of_mem fun {a b} ha hb hab => ?_)
     have h1:=hlt a ha
     have h2:=hlt b hb
     intro he
     exact hab (by omega)
    have:=y8h nb _ hnd fun k hk=>by
     obtain ⟨w,hw',rfl⟩:=List.mem_map.1 hk
     exact (hlt w hw').2
    rw [List.length_map] at this
    omega
   obtain ⟨kk3,again3,sent3,cs3,sd3,bench3,f1,f2,f3,f4⟩:=y7f D nb n kk2 again2 way2 sent2 cs2 sd2 bench2 T2 (by omega) r4 r3 t2 r9 (fun hT3 w hw'=>by
    have h1:=r10 w hw'
    have h2:=(t2.2 hT3).1
    unfold momS at h2
    rcases List.mem_append.1 h2 with h2 | h2
    ·obtain ⟨t,ht,hte⟩:=List.mem_map.1 h2
     obtain ⟨w3,hw3,rfl⟩:=List.mem_map.1 ht
     have:=r7 w3 hw3
     have hte:w3.try_.Done=T2.1:=hte
     omega
    ·obtain ⟨c,hc,hce⟩:=List.mem_map.1 h2
     obtain ⟨c1,c2⟩:=List.mem_filter.1 hc
     have:=r8 c c1 (by simpa using c2)
     omega) hlen2 hn19
   refine ⟨kk3,again3,sent3,cs3,sd3,bench3,(Yw ?_).trans f1,(q2.trans r2).trans f2,f3,f4⟩
   unfold z3e
   simp only
   rw [hT2,if_pos rfl,hv,hends]
   simp only [Option.bind_some]
   rw [e2,r1]
   simp only [Option.bind_some]
   rw [if_pos r4.symm,t1]
   rfl
end
theorem w1c {s:qb} {ph:List zz} {ats:List Int} (h1:stF s=0) (h2:phF s.Instances ph=0) (hp:ph.length≤500) (ha:ats.length≤1000):DC s ph ats:=by
 unfold stF at h1
 split at h1
 ·omega
 rename_i hc
 have hc:ciF s.Instances=0:=by omega
 split at h1
 ·omega
 rename_i hd
 split at h1
 ·omega
 rename_i hb
 simp only [outP,Bool.or_eq_true,decide_eq_true_eq,not_or] at hd
 exact ⟨w0c hc,by omega,by omega,by omega,by omega,by omega,x6o h1,h2,hp,ha⟩
theorem w1n {cl:List yi} (h:clF cl=0) {j:Nat} {x:yi} (hx:cl[j]?=some x):0≤x.At∧x.At≤345686400000:=by
 unfold clF at h
 split at h
 ·omega
 have h1:=y4d cl 0 h j x hx
 rw [Nat.zero_add] at h1
 unfold clE at h1
 split at h1
 ·omega
 split at h1
 ·omega
 split at h1
 ·omega
 rename_i h2 h3 h4
 unfold momP at h4
 simp at h4
 omega
theorem y8k:∀ cl:List yi,muC (cl.map kn)=12 * cl.length
 | []=>rfl
 | c::cl=>by
  have:=y8k cl
  unfold muC at this ⊢
  simp only [List.map_cons,List.sum_cons,List.length_cons] at this ⊢
  have e:wC (kn c)=12:=rfl
  rw [e,this]; omega
theorem x5z {s:qb} {cl:List yi} (hT:1≤s.Tries) (hc:clF cl=0) (hl:cl.length≤7):DyI s 0 [] [] 0 (cl.map kn) ⟨s.Outliers,List.replicate s.Instances.length ⟨0,0,0⟩⟩ ⟨s.Instances,s.Outliers,(0,fun _=>0),(0,fun _=>0),(0,fun _=>0)⟩:=by
 have hm:=y8k cl
 have hg:∀ (k:Nat) c,(cl.map kn)[k]?=some c→∃ x,cl[k]?=some x∧c=kn x:=fun k c h=>by
  rw [List.getElem?_map] at h
  obtain ⟨x,h1,rfl⟩:=Option.map_eq_some_iff.1 h
  exact ⟨x,h1,rfl⟩
 refine ⟨⟨_,_,_,_,0,0,0,rfl,rfl,⟨by rw [List.length_replicate],fun i x hx => ?_,fun q=>⟨by omega,by omega⟩,fun q=>⟨by omega,by omega⟩,fun q=>⟨by omega,by omega⟩⟩,by omega,by omega,by omega⟩,by omega,by simp,by simp,by simp; omega,by simp,fun u hu=>(by cases hu),List.Pairwise.nil,List.Pairwise.nil,fun u hu=>(by cases hu),fun k c hk => ?_,fun k c hk h0 => ?_,fun k c hk h0 => ?_⟩
 ·rw [List.getElem?_replicate,if_pos (wq hx)]
 ·obtain ⟨x,_,rfl⟩:=hg k c hk
  show ([]:List qc).length≤5
  simp
 ·obtain ⟨x,_,rfl⟩:=hg k c hk
  refine ⟨?_,rfl,rfl,fun i y hy=>rfl⟩
  show ((([]:List qc).length:Nat):Int) < s.Tries
  simp; omega
 ·obtain ⟨x,hx,rfl⟩:=hg k c hk
  have:=w1n hc hx
  refine ⟨fun u hu=>(by cases hu),this.1,?_⟩
  show x.At≤345686400000+7200000 * ((([]:List qc).length:Nat):Int)
  simp; omega
theorem x5o {s:qb} {ph:List zz} {cl:List yi} (hB:InsB s.Instances) (h4:s.Instances.length≤4) (h1:stF s=0) (h2:phF s.Instances ph=0) (h3:clF cl=0) (hp:ph.length≤12) (hcl:y49 cl) (hne:s.Instances≠[]) :
  ∃ r,Wa s ph cl=some (r,0)∧z6p s ph cl=some r∧r.length=cl.length∧∀ o,o∈r→o.Tries.length≤5:=by
 have hl:=hcl.1
 have D:=w1c (ats:=cl.map (·.At)) h1 h2 (by omega) (by rw [List.length_map]; omega)
 have hci:ciF s.Instances=0:=by
  unfold stF at h1
  split at h1
  ·omega
  ·omega
 have hR:=x5z D.tr.1 h3 hl
 obtain ⟨T,t1,t2⟩:=y8i [] (cl.map kn) (by simp) (by rw [List.length_map]; omega)
 obtain ⟨kk,again,sent,cs,sd,bench,f1,f2,f3,f4⟩:=y7f D cl.length 101 0 [] [] 0 (cl.map kn) _ _ T (by omega) (by rw [List.length_map]) hR t2 List.Pairwise.nil (fun _ w hw=>(by cases hw)) (by simp) (by omega)
 rw [List.map_nil] at f1
 refine ⟨cs.map (·.out_),?_,?_,by rw [List.length_map,f4],fun o ho => ?_⟩
 ·unfold Wa
  rw [x0y s hB,x0z s.Instances hB ph (by omega),x02 cl (by omega) hcl.2]
  simp only [Option.bind_some]
  rw [h1,hci,h2,h3]
  have hpos:=List.length_pos_iff.2 hne
  simp only [ne_eq,not_true_eq_false,decide_false,Bool.false_eq_true,if_false]
  rw [if_neg (by simp; omega),if_pos ⟨by omega,by omega⟩,t1]
  simp only [Option.bind_some]
  rw [f1]
  simp only [Option.bind_some]
  rw [if_pos (by omega)]
 ·unfold z6p y0a
  rw [if_pos (by omega)]
  simp only [Option.bind_some]
  have e:(cl.map out0,cl.map (·.At),[],0,[],qn.mk s.Instances s.Outliers (0,fun _=>0) (0,fun _=>0) (0,fun _=>0))=gO (cl.map kn) [] 0 [] (qn.mk s.Instances s.Outliers (0,fun _=>0) (0,fun _=>0) (0,fun _=>0)):=by
   unfold gO
   rw [List.map_map,List.map_map]
   rfl
  rw [e,f2]
  rfl
 ·obtain ⟨c,hc,rfl⟩:=List.mem_map.1 ho
  obtain ⟨k,hk⟩:=List.getElem?_of_mem hc
  exact f3.le k c hk
theorem law_err (r2:qb×zr) (r4:(List yi)×zr) (r6:(List zz)×zr) {v:Int} (h:v≠0):z0u r2 r4 r6 ([],v) v=some true:=by
 have hs:z3z [] []=some true:=y73 [] (by simp) (fun o ho=>by cases ho)
 have hv:z1r []=some (⟨0,0⟩,8):=rfl
 unfold z0u z2f
 rw [if_neg (by simpa using h),if_neg (by simp),hs]
 simp only [Option.bind_some]
 unfold z2e z0t
 simp only [Bool.not_true,Bool.false_eq_true,if_false]
 rw [hv]
 simp only [Option.bind_some]
 rw [y4w]
 rfl
theorem w1d (L:List Int):y0c L=some true:=by
 refine Yo ?_
 unfold y0c
 refine yk (x5g (k:=0) ⟨by simp,by simp⟩ (by omega)) fun r2 h2=>yk (w1m h2.2 (by omega)) fun r4 h4=>yk (x6e h4.2 (by omega) r2.1.Instances h2.1.2) fun r6 h6 => ?_
 obtain ⟨⟨hB,hl4⟩,_⟩:=h2
 obtain ⟨hcl,_⟩:=h4
 have hs:=x5i r2.1 hB
 have hsC:=x0y r2.1 hB
 by_cases e1:stF r2.1=0
 ·have hci:ciF r2.1.Instances=0:=by
   unfold stF at e1
   split at e1
   ·omega
   ·omega
  have hl7:=hcl.1
  have hw:z35 (decide ((r2.1.Instances.length:Int)=0)) 8=some (if r2.1.Instances=[] then 8 else 0):=by
   rw [x1t]
   by_cases h:r2.1.Instances=[]
   ·rw [if_pos (by simp [h]),if_pos h]
   ·rw [if_neg (by simpa using h),if_neg h]
  have hrun:∀ v:Int,v≠0→v=erF [phF r2.1.Instances r6.1,clF r4.1,if r2.1.Instances=[] then 8 else 0]→Wa r2.1 r6.1 r4.1=some ([],v):=fun v hv he=>by
   unfold Wa
   rw [hsC,x0z r2.1.Instances hB r6.1 (by omega),x02 r4.1 (by omega) hcl.2]
   simp only [Option.bind_some]
   rw [e1,hci]
   simp only [ne_eq,not_true_eq_false,decide_false,Bool.false_eq_true,if_false]
   have he:v=if phF r2.1.Instances r6.1≠0 then phF r2.1.Instances r6.1 else if clF r4.1≠0 then clF r4.1 else if (if r2.1.Instances=[] then (8:Int) else 0)≠0 then (if r2.1.Instances=[] then (8:Int) else 0) else 0:=he
   by_cases p0:phF r2.1.Instances r6.1=0
   ·rw [if_neg (by simpa using p0)] at he ⊢
    by_cases c0:clF r4.1=0
    ·rw [if_neg (by simpa using c0)] at he ⊢
     by_cases i0:r2.1.Instances=[]
     ·rw [if_pos i0] at he
      rw [if_pos (by simp [i0])]
      have he:v=8:=he
      rw [he]
     ·rw [if_neg i0] at he
      exact absurd he hv
    ·rw [if_pos (by simpa using c0)] at he ⊢
     rw [he]
   ·rw [if_pos (by simpa using p0)] at he ⊢
    rw [he]
  by_cases e0:erF [phF r2.1.Instances r6.1,clF r4.1,if r2.1.Instances=[] then 8 else 0]=0
  ·have he:(if phF r2.1.Instances r6.1≠0 then phF r2.1.Instances r6.1 else if clF r4.1≠0 then clF r4.1 else if (if r2.1.Instances=[] then (8:Int) else 0)≠0 then (if r2.1.Instances=[] then (8:Int) else 0) else 0)=0:=e0
   have p0:phF r2.1.Instances r6.1=0:=by
    by_cases h:phF r2.1.Instances r6.1=0
    ·exact h
    ·rw [if_pos h] at he; exact absurd he h
   rw [if_neg (by simpa using p0)] at he
   have c0:clF r4.1=0:=by
    by_cases h:clF r4.1=0
    ·exact h
    ·rw [if_pos h] at he; exact absurd he h
   rw [if_neg (by simpa using c0)] at he
   have i0:r2.1.Instances≠[]:=fun h=>by
    rw [if_pos h] at he
    revert he
    decide
   obtain ⟨r,q1,q2,q3,q4⟩:=x5o hB hl4 e1 p0 c0 h6 hcl i0
   rw [q1,hs]
   simp only [Option.bind_some]
   rw [e1,if_pos (by decide),y7s r2.1.Instances (by omega) r6.1 (by omega),y7t r4.1 (by omega) hcl.2,hw]
   simp only [Option.bind_some]
   rw [x0l _ (by simp),e0]
   simp only [Option.bind_some]
   unfold z0u
   rw [if_pos (by decide),q2]
   simp only [Option.bind_some]
   unfold z2f
   rw [if_neg (by simp),y73 r (by omega) (fun o ho=>by have:=q4 o ho; omega)]
   simp only [Option.bind_some]
   unfold z2e z0t z2d
   simp only [Bool.not_true,Bool.false_eq_true,if_false]
   by_cases hr:r=[]
   ·subst hr
    have hv:z1r []=some (⟨0,0⟩,8):=rfl
    rw [hv]
    simp only [Option.bind_some]
    rw [y4w]
    exact yc rfl
   ·obtain ⟨f,f1,f2⟩:=x5j r hr (by omega)
    have hpos:=List.length_pos_iff.2 hr
    rw [f1]
    simp only [Option.bind_some]
    rw [if_neg (by simp; omega),if_pos (by decide),f2]
    simp only [Option.bind_some]
    rw [y4w]
    have ef:((f.Num == f.Num) && ((f.Den == f.Den) && true))=true:=by simp
    rw [if_pos ef]
    exact yc rfl
  ·rw [hrun _ e0 rfl,hs]
   simp only [Option.bind_some]
   rw [e1,if_pos (by decide),y7s r2.1.Instances (by omega) r6.1 (by omega),y7t r4.1 (by omega) hcl.2,hw]
   simp only [Option.bind_some]
   rw [x0l _ (by simp)]
   simp only [Option.bind_some]
   exact y3e (law_err r2 r4 r6 e0) rfl
 ·have hrun:Wa r2.1 r6.1 r4.1=some ([],stF r2.1):=by
   unfold Wa
   rw [hsC]
   simp only [Option.bind_some]
   rw [if_pos (by simpa using e1)]
  rw [hrun,hs]
  simp only [Option.bind_some]
  rw [if_neg (by simpa using e1)]
  exact y3e (law_err r2 r4 r6 e1) rfl
end Go.Proofs.YtgdijjmdfcgifaaGreat
