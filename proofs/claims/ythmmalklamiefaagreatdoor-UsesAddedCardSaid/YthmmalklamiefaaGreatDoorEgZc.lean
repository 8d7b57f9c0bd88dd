/- Plain: the stream's applications and events. -/
import Derived.Test.YthmmalklamiefaaGreatDoorEvZc
import Derived.Test.YthmmalklamiefaaGreatDoorSrZc
namespace Go.Proofs.YthmmalklamiefaaGreatDoor
set_option linter.unusedVariables false
set_option linter.unusedSimpArgs false
set_option maxRecDepth 20000
section
variable {α:Type}
noncomputable def gCfJ (z:α) (v30:Int) (v31:List α):Option (Int ⊕ List α):=
 if (0:Int)≤v30∧v30 < (v31.length:Int) then (if (0:Int)≤v30∧v30≤((v31.take v30.toNat++List.replicate (v31.length - v30.toNat) z).length:Int) then (some (.inr ((v31.take v30.toNat++List.replicate (v31.length - v30.toNat) z).take v30.toNat))) else none) else none
noncomputable def gCfI (z:α) (p1:α→α→Option Bool) (v3 v14 v15:Int) (l16:List α):Option ((Int×Int×List α) ⊕ (Int ⊕ List α)):=
 if decide (v15 < ((l16.drop v3.toNat).length:Int)) then ((at? (l16.drop v3.toNat) v15).bind fun x19=>(at? (l16.drop v3.toNat) (wr (v15 - 1))).bind fun x21=>(p1 x19 x21).bind fun (r23:Bool)=>if !r23 then ((at? l16 v14).bind fun x26=>some (.inl (wr (v14+1),wr (v15+1),l16.set v14.toNat x19))) else (some (.inl (v14,wr (v15+1),l16)))) else (Option.map .inr (gCfJ z v14 l16))
noncomputable def gCfO (z:α) (v1:List α) (p1:α→α→Option Bool) (v3:Int):Option (Int ⊕ List α):=
 if decide (v3 < (v1.length:Int)) then ((at? v1 v3).bind fun x6=>(at? v1 (wr (v3 - 1))).bind fun x8=>(p1 x6 x8).bind fun (r10:Bool)=>if r10 then (if (0:Int)≤v3∧v3 < (v1.length:Int) then (iter (fun (s:Int×Int×List α)=>gCfI z p1 v3 s.1 s.2.1 s.2.2) (v3,1,v1)) else none) else (some (.inl (wr (v3+1))))) else (Option.map .inr (some v1))
noncomputable def gCf (z:α) (v1:List α) (p1:α→α→Option Bool):Option (List α):=
 if decide ((v1.length:Int) < 2) then some v1 else (iter (fun (s:Int)=>gCfO z v1 p1 s) 1)
theorem x5d (l:List α) (m:Int) (h:0≤m∧m < (l.length:Int)):∃ y,at? l m=some y∧y∈l∧l[m.toNat]?=some y:=by
 unfold at?
 rw [if_pos h.1,List.getElem?_eq_getElem (by omega)]
 exact ⟨_,rfl,List.getElem_mem _,rfl⟩
theorem w8q (z:α) (l:List α) (p:α→α→Option Bool) (hl:l.length≤1000000) (hp:∀ x y,x∈l→y∈l→∃ b,p x y=some b):Ok (gCf z l p) fun r=>r.length≤l.length∧∀ x,x∈r→x∈l:=by
 unfold gCf
 refine y0s (fun _=>z13 ⟨Nat.le_refl _,fun x hx=>hx⟩) (fun h2 => ?_)
 have h2:2≤l.length:=by simp at h2; omega
 refine x7d (fun s:Int=>1≤s∧s≤(l.length:Int)) (fun s=>((l.length:Int) - s).toNat) ?_ 1 ⟨by omega,by omega⟩
 intro s hs
 unfold gCfO
 refine y0s (fun hc => ?_) (fun hc=>z13 ⟨Nat.le_refl _,fun x hx=>hx⟩)
 have hc:s < (l.length:Int):=by simpa using hc
 obtain ⟨x,hx,mx,_⟩:=x5d l s ⟨by omega,hc⟩
 obtain ⟨y,hy,my,_⟩:=x5d l (s - 1) ⟨by omega,by omega⟩
 rw [z6j (n:=s - 1) (by omega),hx,hy]
 obtain ⟨b,hb⟩:=hp x y mx my
 simp only [Option.bind_some,hb]
 refine y0s (fun _=>ok_g ⟨by omega,hc⟩ ?_) (fun _=>z13 ?_)
 ·refine x7d (fun q:Int×Int×List α=>s≤q.1∧1≤q.2.1∧q.1 < s+q.2.1∧s+q.2.1≤(l.length:Int)∧q.2.2.length=l.length∧∀ x,x∈q.2.2→x∈l) (fun q=>((l.length:Int) - q.2.1).toNat) ?_ _ ⟨by simp,by simp,by simp only; omega,by simp only; omega,rfl,fun x hx=>hx⟩
  rintro ⟨i,j,m⟩ ⟨q1,q2,q3,q4,q5,q6⟩
  simp only at q1 q2 q3 q4 q5 q6
  unfold gCfI
  have hd:((m.drop s.toNat).length:Int)=(l.length:Int) - s:=by rw [List.length_drop]; omega
  refine y0s (fun hj => ?_) (fun hj => ?_)
  ·have hj:j < ((m.drop s.toNat).length:Int):=by simpa using hj
   obtain ⟨x1,e1,m1,_⟩:=x5d (m.drop s.toNat) j ⟨by omega,hj⟩
   obtain ⟨x2,e2,m2,_⟩:=x5d (m.drop s.toNat) (j - 1) ⟨by omega,by omega⟩
   obtain ⟨x3,e3,m3,_⟩:=x5d m i ⟨by omega,by omega⟩
   obtain ⟨b2,hb2⟩:=hp x1 x2 (q6 _ (List.mem_of_mem_drop m1)) (q6 _ (List.mem_of_mem_drop m2))
   simp only
   rw [z6j (n:=j - 1) (by omega),e1,e2]
   simp only [Option.bind_some,hb2,e3]
   rw [z6j (n:=j+1) (by omega),z6j (n:=i+1) (by omega)]
   refine y0s (fun _=>z13 ?_) (fun _=>z13 ?_)
   ·refine ⟨⟨by simp only; omega,by simp only; omega,by simp only; omega,by simp only; omega,by simp only [List.length_set]; exact q5,fun x hx => ?_⟩,by simp only; omega⟩
    rcases List.mem_or_eq_of_mem_set hx with hx | hx
    ·exact q6 x hx
    ·rw [hx]; exact q6 _ (List.mem_of_mem_drop m1)
   ·exact ⟨⟨by simp only; omega,by simp only; omega,by simp only; omega,by simp only; omega,q5,q6⟩,by simp only; omega⟩
  ·have hj:¬ j < ((m.drop s.toNat).length:Int):=by simpa using hj
   simp only
   unfold gCfJ
   rw [if_pos ⟨by omega,by omega⟩,if_pos ⟨by omega,by simp; omega⟩]
   refine z13 ?_
   simp only [rd]
   have e:(m.take i.toNat++List.replicate (m.length - i.toNat) z).take i.toNat=m.take i.toNat:=by
    have:(m.take i.toNat).length=i.toNat:=by rw [List.length_take]; omega
    conv=>lhs; arg 1; rw [← this]
    rw [List.take_left]
   rw [e]
   exact ⟨by rw [List.length_take]; omega,fun x hx=>q6 x (List.mem_of_mem_take hx)⟩
 ·simp only [rd]
  rw [z6j (n:=s+1) (by omega)]
  omega
theorem w12 (l:List α) (h:l≠[]) (hl:l.length≤1000000000):∃ y,at? l (wr ((l.length:Int) - 1))=some y∧l.getLast?=some y:=by
 have hp:0 < l.length:=by cases l with | nil=>exact absurd rfl h | cons _ _=>simp
 rw [z6j (by omega)]
 obtain ⟨y,h1,_,h3⟩:=x5d l ((l.length:Int) - 1) ⟨by omega,by omega⟩
 refine ⟨y,h1,?_⟩
 rw [List.getLast?_eq_getElem?,← h3]
 congr 1
 omega
end
theorem x5w {k:Int} {s:z0d} (h:SB k s) (hk:k≤100000):Ok (z6d s) fun r=>(r.1.length≤3∧∀ x,x∈r.1→x.Key.length≤100∧x.Owner.length≤100)∧SB (k+2) r.2:=by
 unfold z6d
 refine z1c (y2x h (by omega) _ ⟨by simp,by simp⟩) fun r2 h2=>z1c (y4c h2.2 (by omega) _ ⟨by simp,by simp⟩) fun r4 h4 => ?_
 have b4:=h4.1
 simp only [List.mem_cons,List.not_mem_nil,or_false] at b4
 have b2:r2.1.length≤100:=by
  have h1:=h2.1
  simp only [List.mem_cons,List.not_mem_nil,or_false] at h1
  rcases h1 with h1 | h1 <;> rw [h1] <;> decide
 have hs:∀ (l:List z0s),l.length=3→(∀ x,x∈l→x.Key.length≤100∧x.Owner.length≤100)→(l.take r4.1.toNat).length≤3∧∀ x,x∈l.take r4.1.toNat→x.Key.length≤100∧x.Owner.length≤100:=fun l hl hx=>⟨by rw [List.length_take]; omega,fun x h=>hx x (List.mem_of_mem_take h)⟩
 have hsub:=hs [(z0s.mk [97,112,112,49] [97,110,110]),(z0s.mk [97,112,112,50] r2.1),(z0s.mk [97,112,112,51] [98,111,98])] rfl fun x hx => ?_
 ·exact ok_g (by simp only [List.length_cons,List.length_nil]; omega) (z13 ⟨hsub,h4.2.mono (by omega)⟩)
 simp only [List.mem_cons,List.not_mem_nil,or_false] at hx
 rcases hx with hx | hx | hx <;> subst hx
 ·exact ⟨by simp,by simp⟩
 ·exact ⟨by simp,b2⟩
 ·exact ⟨by simp,by simp⟩
theorem w7n {k:Int} {s:z0d} (h:SB k s) (hk:k≤100000):Ok (z8o s) fun r=>(r.1.length≤4∧∀ x,x∈r.1→x.Key.length≤100∧x.Owner.length≤100)∧SB (k+10) r.2:=by
 unfold z8o z6w
 refine z1c (x5w h hk) fun r2 h2=>z1c (y4y h2.2 (by omega) _ (by omega)) fun r4 h4=>y0s (fun _ => ?_) (fun _=>z13 ⟨⟨by have:=h2.1.1; simp only; omega,h2.1.2⟩,h4.mono (by omega)⟩)
 refine z1c (y2x h4 (by omega) _ ⟨by simp,by simp⟩) fun r6 h6=>z1c (y2x h6.2 (by omega) _ ⟨by simp,by simp⟩) fun r8 h8=>ok_g (by have:=h2.1.1; omega) (z13 ⟨⟨by have:=h2.1.1; simp; omega,fun x hx => ?_⟩,h8.2.mono (by omega)⟩)
 rcases List.mem_append.1 hx with hx | hx
 ·exact h2.1.2 x hx
 ·simp only [List.mem_singleton] at hx
  subst hx
  have h1:=h6.1
  have h3:=h8.1
  simp only [List.mem_cons,List.not_mem_nil,or_false] at h1 h3
  exact ⟨by rcases h1 with h1 | h1 | h1 <;> simp only [h1] <;> decide,by rcases h3 with h1 | h1 <;> simp only [h1] <;> decide⟩
theorem w9h (c:z0i) (key:Bs) (h:¬ ixL c key < 0):∃ y,at? c.Plans (ixL c key)=some y:=by
 have h1:=x7o (fun x:z0p=>decide (x.Key=key)) c.Plans
 have h2:decide (0≤fdx (fun x:z0p=>decide (x.Key=key)) 0 c.Plans)=true:=by
  have:0≤ixL c key:=by omega
  simpa [ixL] using this
 rw [h2] at h1
 obtain ⟨_,x,h3,_⟩:=w2j _ c.Plans h1.symm
 exact ⟨x,h3⟩
theorem w45 (c:z0i) (hb:c.Plans.length≤100000) (s:z0o) (x:z0f):Ok (z8i c s x) fun _=>True:=by
 have hp:z3v c x.Plan=some (ixL c x.Plan):=y9v c x.Plan hb
 unfold z8i z82 z3w z81 z80
 by_cases hk:x.Kind=1
 ·by_cases hi:ixL c x.Plan < 0
  ·simp only [hk,hp,hi,decide_true,if_true,Option.bind_some]
   exact z13 trivial
  ·obtain ⟨y,hy⟩:=w9h c x.Plan hi
   simp only [hk,hp,hi,hy,x4w,decide_true,decide_false,Bool.false_eq_true,if_false,if_true,Option.bind_some]
   repeat' first | exact z13 trivial | refine y0s (fun _ => ?_) (fun _ => ?_)
 ·simp only [hk,x4w,decide_false,Bool.false_and,Bool.false_eq_true,if_false,Option.bind_some]
  repeat' first | exact z13 trivial | refine y0s (fun _ => ?_) (fun _ => ?_)
theorem w07 (c:z0i) (hb:c.Plans.length≤100000) (l:List z0f) (hl:l.length≤1000000) (a p:Bs):Ok (z98 c l a p) fun r=>r.1≠[]∧r.1.length≤l.length+1:=by
 unfold z98 z9h
 simp only [Option.bind_some]
 refine ok_g (by omega) ?_
 refine x0e (fun (j:Nat) (q:(List z0o)×(List Int))=>q.1≠[]∧q.1.length≤j+1∧q.2.length≤j) _ 0 _ ⟨by simp,by simp,by simp⟩ ?_ ?_
 ·rintro j x ⟨u,v⟩ _ hx ⟨q1,q2,q3⟩
  simp only at q1 q2 q3
  have hj:j < l.length:=by have:=z9l hx; omega
  unfold y1c z6g
  refine y0s (fun _=>z13 ⟨q1,by simp only; omega,by simp only; omega⟩) (fun _ => ?_)
  obtain ⟨y,hy,_⟩:=w12 u q1 (by omega)
  simp only [hy,Option.bind_some]
  refine z1c (w45 c hb y x) fun r _=>y0s (fun _=>ok_g (by omega) (z13 ?_)) (fun _=>ok_g (by omega) (z13 ?_))
  ·exact ⟨by simp,by simp; omega,by simp only; omega⟩
  ·exact ⟨q1,by simp only; omega,by simp; omega⟩
 ·rintro ⟨u,v⟩ ⟨q1,q2,q3⟩
  unfold y1d
  exact z13 ⟨q1,by simp only at q2 ⊢; omega⟩
abbrev EQ:Type:=(Int×(List Int)×Int×(List z0f)) ⊕ ((List z0f)×z0d)
def ER (K:Int) (a:Int) (n:Nat) (R:(List z0f)×z0d→Prop):EQ→Prop:=
 rd (fun q=>SB K ⟨q.2.1,q.2.2.1⟩∧(0≤q.1∧q.1≤a+2592000000)∧q.2.2.2.length≤n+1∧∀ x,x∈q.2.2.2→EB x) R
section
variable {K:Int} {n:Nat} {v5:Int} {l8:List z0f} {r21:Int×z0d} {r25:Bs×z0d} {R:(List z0f)×z0d→Prop}
variable (hv:0≤v5∧v5≤1000000000000000) (h21:0≤r21.1∧r21.1≤2592000000) (hl:l8.length≤n∧n≤1000∧∀ x,x∈l8→EB x) (h25:r25.1.length≤100)
include hv h21 hl
theorem eJ2 {K2:Int} (hK:K2≤K) {c d} (hs:SB K2 ⟨c,d⟩):Ok (z3r (wr (v5+r21.1)) l8 c d) (ER K v5 n R):=by
 unfold z3r
 rw [z6j (by omega)]
 exact z13 ⟨hs.mono hK,by simp only; omega,by have:=hl.1; simp only; omega,hl.2.2⟩
theorem eJ9 {K2:Int} (hK:K2≤K) {c d} (hs:SB K2 ⟨c,d⟩) {t:Int} {a p k q} (hx:EB (z0f.mk t a p k q)):Ok (z2o v5 l8 r21 c d t a p k q) (ER K v5 n R):=by
 have h1:=hl.1
 have h2:=hl.2.1
 unfold z2o z3r
 rw [z6j (by omega)]
 refine ok_g (by omega) (z13 ⟨hs.mono hK,by simp only; omega,by simp; omega,fun x hm => ?_⟩)
 rcases List.mem_append.1 hm with hm | hm
 ·exact hl.2.2 x hm
 ·rw [List.mem_singleton.1 hm]; exact hx
include h25
theorem eJ8 {c44:Bs} (h44:c44.length≤100) {c76:Int} {c d} (hs:SB K ⟨c,d⟩) (hk:K≤100000) {q:Bs} (hq:q.length≤100):Ok (z4m v5 l8 r21 r25 c44 c76 c d q) (ER (K+4) v5 n R):=by
 unfold z4m
 have ht:atB (wr (v5+r21.1)):=by rw [z6j (by omega)]; unfold atB; omega
 refine z1c (y4y hs (by omega) _ (by omega)) fun r86 h86=>y0s (fun _ => ?_) (fun _=>eJ9 hv h21 hl (by omega) h86 ⟨ht,by simp only; omega,by simp only; omega,by simp only; omega⟩)
 refine z1c (y60 h86 (by omega) _ (by omega)) fun r89 h89=>y0s (fun _ => ?_) (fun _=>y0s (fun _ => ?_) (fun _=>y0s (fun _ => ?_) (fun _=>y0s (fun _ => ?_) (fun _ => ?_))))
 ·unfold z4v
  refine z1c (Q:=fun (r:Bs×z0d)=>r.1.length≤100∧SB (K+3) r.2) (z1c (y2x h89.2 (by omega) _ ⟨by simp,by simp⟩) fun r2 h2=>z13 ⟨?_,h2.2.mono (by omega)⟩) fun r92 h92=>eJ9 hv h21 hl (by omega) h92.2 ⟨ht,by have:=h92.1; simp only; omega,by simp only; omega,by simp only; omega⟩
  have h1:=h2.1
  simp only [List.mem_cons,List.not_mem_nil,or_false] at h1
  rcases h1 with h1 | h1 | h1 | h1 | h1 | h1 <;> simp only [h1] <;> decide
 ·unfold z3m
  refine z1c (Q:=fun (r:Bs×z0d)=>r.1.length≤100∧SB (K+3) r.2) (z1c (y2x h89.2 (by omega) _ ⟨by simp,by simp⟩) fun r2 h2=>z13 ⟨?_,h2.2.mono (by omega)⟩) fun r92 h92=>eJ9 hv h21 hl (by omega) h92.2 ⟨ht,by simp only; omega,by have:=h92.1; simp only; omega,by simp only; omega⟩
  have h1:=h2.1
  simp only [List.mem_cons,List.not_mem_nil,or_false] at h1
  rcases h1 with h1 | h1 | h1 | h1 | h1 <;> simp only [h1] <;> decide
 ·exact z1c (y8y h89.2 (by omega) _ _ (by omega)) fun r98 h98=>eJ9 hv h21 hl (by omega) h98.2 ⟨ht,by simp only; omega,by simp only; omega,by simp only; omega⟩
 ·refine z1c (y2x h89.2 (by omega) _ ⟨by simp,by simp⟩) fun r101 h101=>eJ9 hv h21 hl (by omega) h101.2 ⟨ht,by simp only; omega,by simp only; omega,?_⟩
  have h1:=h101.1
  simp only [List.mem_cons,List.not_mem_nil,or_false] at h1
  rcases h1 with h1 | h1 | h1 <;> simp only [h1] <;> decide
 ·exact z1c (y8y h89.2 (by omega) _ _ (by omega)) fun r103 h103=>eJ9 hv h21 hl (by omega) h103.2 ⟨by have:=h103.1; unfold atB; simp only; omega,by simp only; omega,by simp only; omega,by simp only; omega⟩
theorem eJ6 {c44:Bs} (h44:c44.length≤100) {l45:List Bs} (h45:l45.length≤1000∧∀ x,x∈l45→x.length≤100) {c76:Int} {c d} (hs:SB K ⟨c,d⟩) (hk:K≤90000):Ok (z2p v5 l8 r21 r25 c44 l45 c d c76) (ER (K+5) v5 n R):=by
 unfold z2p
 refine y0s (fun _=>y0s (fun _=>eJ2 hv h21 hl (by omega) hs) (fun h0 => ?_)) (fun _ => ?_)
 ·have h0:0 < l45.length:=by simp at h0; cases hq:l45 with | nil=>exact absurd hq h0 | cons _ _=>simp
  refine z1c (y60 hs (by omega) _ (by omega)) fun r79 h79 => ?_
  obtain ⟨y,h1,h2,_⟩:=x5d l45 r79.1 ⟨h79.1.1,h79.1.2.1 (by omega)⟩
  rw [h1]
  simp only [Option.bind_some]
  exact x2e (eJ8 (K:=K+1) (n:=n) (R:=R) hv h21 hl h25 h44 h79.2 (by omega) (h45.2 y h2)) fun q hq=>by rw [show K+5=K+1+4 by omega]; exact hq
 ·exact x2e (eJ8 (K:=K+1) (n:=n) (R:=R) hv h21 hl h25 h44 (hs.mono (by omega)) (by omega) (by simp)) fun q hq=>by rw [show K+5=K+1+4 by omega]; exact hq
theorem eJ7 {v2:z0i} (hc:CS v2) {r27:Int×z0d} {c44:Bs} (h44:c44.length≤100) {l45:List Bs} (h45:l45.length≤1000∧∀ x,x∈l45→x.length≤100) {v57:Bool} {c d} (hs:SB K ⟨c,d⟩) (hk:K≤80000):Ok (z3p v2 v5 l8 r21 r25 r27 c44 l45 v57 c d) (ER (K+6) v5 n R):=by
 unfold z3p
 have hfin:∀ {c76:Int} {c d},SB (K+1) ⟨c,d⟩→Ok (z2p v5 l8 r21 r25 c44 l45 c d c76) (ER (K+6) v5 n R):=fun hs=>x2e (eJ6 (K:=K+1) (n:=n) (R:=R) hv h21 hl h25 h44 h45 hs (by omega)) fun q hq=>by rw [show K+6=K+1+5 by omega]; exact hq
 have b1:=hl.1
 have b2:=hl.2.1
 refine y0s (fun _ => ?_) (fun _=>hfin (hs.mono (by omega)))
 refine z1c (w07 v2 (by have:=hc.nl; omega) l8 (by omega) _ _) fun r61 h61 => ?_
 obtain ⟨y,hy,_⟩:=w12 r61.1 h61.1 (by have:=h61.2; omega)
 rw [hy]
 simp only [Option.bind_some]
 refine y0s (fun _ => ?_) (fun _=>y0s (fun _ => ?_) (fun _=>y0s (fun _ => ?_) (fun _=>hfin (hs.mono (by omega)))))
 all_goals exact z1c (y4c hs (by omega) _ ⟨by simp,by simp⟩) fun r66 h66=>hfin h66.2
theorem eJ3 {v2:z0i} (hc:CS v2) {r27:Int×z0d} {c44:Bs} (h44:c44.length≤100) {c d} (hs:SB K ⟨c,d⟩) (hk:K≤70000):Ok (z3q v2 v5 l8 r21 r25 r27 c d c44) (ER (K+7) v5 n R):=by
 unfold z3q
 have hn:=hc.nl
 refine ok_g (by omega) ?_
 refine x0e (fun (j:Nat) (q:List Bs)=>q.length≤j∧∀ x,x∈q→x.length≤100) _ 0 _ ⟨by simp,by simp⟩ ?_ ?_
 ·rintro j x q _ hx ⟨q1,q2⟩
  have hj:j < v2.Plans.length:=by have:=z9l hx; omega
  unfold z89 z42
  refine y0s (fun _=>ok_g (by omega) (z13 ⟨by simp; omega,fun y hy => ?_⟩)) (fun _=>z13 ⟨by omega,q2⟩)
  rcases List.mem_append.1 hy with hy | hy
  ·exact q2 y hy
  ·rw [List.mem_singleton.1 hy]; exact (hc.kl x (List.mem_of_getElem? hx)).1
 ·rintro q ⟨q1,q2⟩
  unfold z9b
  have h45:q.length≤1000∧∀ x,x∈q→x.length≤100:=⟨by omega,q2⟩
  have hfin:∀ {v:Bool} {c d},SB (K+1) ⟨c,d⟩→Ok (z3p v2 v5 l8 r21 r25 r27 c44 q v c d) (ER (K+7) v5 n R):=fun hs=>x2e (eJ7 (K:=K+1) (n:=n) (R:=R) hv h21 hl h25 hc h44 h45 hs (by omega)) fun q hq=>by rw [show K+7=K+1+6 by omega]; exact hq
  refine z1c (y4y hs (by omega) _ (by omega)) fun r50 h50=>y0s (fun _ => ?_) (fun _=>hfin h50)
  rw [y9j v2 hc.cb]
  exact hfin h50
end
theorem w09 (l r:List z0f) (p:z0f→z0f→Option Int) (h:l.length≤19) (hr:gIns l 0 (l.length:Int) p=some r) (hl:r.length=l.length):z12 l p=some r:=by
 unfold z12
 have e:z5z l (l.length:Int) p=some r:=w4o l r _ h hr hl
 rw [e]
 simp only [Option.bind_some]
 rw [if_pos hl]
theorem w0b {k:Int} {s:z0d} (h:SB k s) (hk:k≤10000) {c:z0i} (hc:CS c) {apps:List z0s} (ha:apps.length≤10∧∀ x,x∈apps→x.Key.length≤100∧x.Owner.length≤100) {n:Int} (hn:0≤n∧n≤19) :
  Ok (z7h s c apps n) fun r=>((r.1.length:Int)≤n∧∀ x,x∈r.1→EB x)∧SB (k+400) r.2:=by
 unfold z7h
 refine ok_g (by omega) ?_
 refine x3g (fun (j:Nat) (q:Int×(List Int)×Int×(List z0f))=>SB (k+20 * (j:Int)) ⟨q.2.1,q.2.2.1⟩∧(0≤q.1∧q.1≤2592000000 * (j:Int))∧q.2.2.2.length≤j∧∀ x,x∈q.2.2.2→EB x) _ 0 _ ⟨by simpa using h,by simp,by simp,by simp⟩ ?_ ?_
 ·rintro j ⟨v5,c6,c7,l8⟩ _ hj ⟨q1,q2,q3,q4⟩
  simp only at q1 q2 q3 q4
  have hj:j < 19:=by omega
  unfold z9a
  simp only
  refine z1c (y4c q1 (by omega) _ ⟨by simp,by simp⟩) fun r21 h21=>z1c (y2x h21.2 (by omega) _ ⟨by simp,by simp⟩) fun r23 h23=>z1c (y2x h23.2 (by omega) _ ⟨by simp,by simp⟩) fun r25 h25=>z1c (x1g h25.2 (by omega) _ _ (by omega)) fun r27 h27 => ?_
  have b21:0≤r21.1∧r21.1≤2592000000:=by
   have h1:=h21.1
   have h2:=Int.tmod_nonneg 2592000000 q2.1
   have h3:=Int.tmod_lt_of_pos v5 (show (0:Int) < 2592000000 by omega)
   rw [z6j (n:=2592000000 - v5.tmod 2592000000) (by omega)] at h1
   simp only [List.mem_cons,List.not_mem_nil,or_false] at h1
   omega
  have b23:r23.1.length≤100:=by
   have h1:=h23.1
   simp only [List.mem_cons,List.not_mem_nil,or_false] at h1
   rcases h1 with h1 | h1 | h1 <;> rw [h1] <;> decide
  have b25:r25.1.length≤100:=by
   have h1:=h25.1
   simp only [List.mem_cons,List.not_mem_nil,or_false] at h1
   rcases h1 with h1 | h1 | h1 <;> rw [h1] <;> decide
  have hfin:∀ {a:Bs} {c1 d1},a.length≤100→SB (k+20 * (j:Int)+6) ⟨c1,d1⟩→Ok (z3q c v5 l8 r21 r25 r27 c1 d1 a) (rd (fun (q:Int×(List Int)×Int×(List z0f))=>SB (k+20 * ((j+1:Nat):Int)) ⟨q.2.1,q.2.2.1⟩∧(0≤q.1∧q.1≤2592000000 * ((j+1:Nat):Int))∧q.2.2.2.length≤j+1∧∀ x,x∈q.2.2.2→EB x) fun r=>((r.1.length:Int)≤n∧∀ x,x∈r.1→EB x)∧SB (k+400) r.2):=fun ha hs=>x2e (eJ3 (K:=k+20 * (j:Int)+6) (n:=j) (R:=fun r=>((r.1.length:Int)≤n∧∀ x,x∈r.1→EB x)∧SB (k+400) r.2) (by omega) b21 ⟨q3,by omega,q4⟩ b25 hc ha hs (by omega)) fun q hq=>by
   cases q with
   | inl q=>exact ⟨hq.1.mono (by omega),⟨hq.2.1.1,by have:=hq.2.1.2; omega⟩,hq.2.2.1,hq.2.2.2⟩
   | inr q=>exact hq
  unfold z5q
  refine y0s (fun hp=>z1c (y4y h27.2 (by omega) _ (by omega)) fun r31 h31=>y0s (fun _ => ?_) (fun _=>hfin b23 (h31.mono (by omega)))) (fun _ => ?_)
  ·have hp:0 < apps.length:=by simpa using hp
   refine z1c (y60 h31 (by omega) _ (by omega)) fun r38 h38 => ?_
   obtain ⟨y,h1,h2,_⟩:=x5d apps r38.1 ⟨h38.1.1,h38.1.2.1 (by omega)⟩
   rw [h1]
   simp only [Option.bind_some]
   exact hfin (ha.2 y h2).1 (h38.2.mono (by omega))
  ·rw [if_neg (by decide)]
   exact hfin b23 (h27.2.mono (by omega))
 ·rintro ⟨v5,c6,c7,l8⟩ ⟨q1,q2,q3,q4⟩
  simp only at q1 q2 q3 q4
  have hn8:(l8.length:Int)≤n:=by omega
  have hl:l8.length≤19:=by omega
  unfold z9c
  obtain ⟨r,p1,p2,_⟩:=w4r (p:=fun a0 a1=>z3n a0 a1) (q:=fun a0 a1=>z3n a0 a1) (f:=id) l8 (by omega) (List.pairwise_iff_getElem.2 fun i j hi hj _=>⟨_,_,x1h _ _ (q4 _ (List.getElem_mem hj)).t (q4 _ (List.getElem_mem hi)).t,x1h _ _ (q4 _ (List.getElem_mem hj)).t (q4 _ (List.getElem_mem hi)).t,Iff.rfl⟩)
  have e1:z12 l8 (fun (a0:z0f) (a1:z0f)=>z3n a0 a1)=some r:=w09 l8 r _ hl p2 p1.length_eq
  rw [e1]
  simp only [Option.bind_some]
  rw [if_pos p1.length_eq]
  have hr:∀ x,x∈r→EB x:=fun x hx=>q4 x (p1.mem_iff.1 hx)
  have hrl:(r.length:Int)≤n:=by rw [p1.length_eq]; exact hn8
  refine z1c (y4y q1 (by omega) _ (by omega)) fun r15 h15=>y0s (fun _=>z13 ⟨⟨hrl,hr⟩,h15.mono (by omega)⟩) (fun _ => ?_)
  refine z1c (w8q (z0f.mk 0 [] [] 0 []) r _ (by omega) fun x y hx hy=>⟨_,by unfold z6x; rw [x1h x y (hr x hx).t (hr y hy).t]; rfl⟩) fun r18 h18=>z13 ⟨⟨by have:=h18.1; simp only; omega,fun x hx=>hr x (h18.2 x hx)⟩,h15.mono (by omega)⟩
end Go.Proofs.YthmmalklamiefaaGreatDoor
