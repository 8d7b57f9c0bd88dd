/- A day of calls: what happens at a moment; the calls, lent as data. -/
import Derived.Test.YtgdijjmdfcgifaaGreatXdf
namespace Go.Proofs.YtgdijjmdfcgifaaGreat
open Go.RowKit Go.ChangeMaps Go.MapKept
set_option linter.unusedVariables false
set_option maxRecDepth 100000
abbrev StE:=List Int×qj×List yj
abbrev StA:=List Int×List zt×qj×List yj
noncomputable def z2g (s:qb) (ats:List Int) (nb:Nat) (k:Nat) (x:zt) (st:StE):Option (StE ⊕ StE):=
 if x.call_.toNat < nb then (at? st.2.2 x.call_).bind fun c=>(Wd s ats st.1 st.2.1 c x).bind fun r=>some (.inl (r.1,r.2.1,st.2.2.set x.call_.toNat r.2.2)) else none
noncomputable def x0o (st:StE):Option StE:=some st
noncomputable def z7a (s:qb) (ats:List Int) (nb:Nat) (st:StA) (v3:Int):Option StE:=
 if st.2.1.length≤1000000 then (z1t (st.2.1.filter (eqE v3)) Yr).bind fun now=>if now.length≤1000000000 then forL (z2g s ats nb) x0o 0 now (st.1,st.2.2.1,st.2.2.2) else none else none
theorem x5d {l r:List zt} {p:zt→zt→Option Int} (h:z1t l p=some r):l.length=r.length:=by
 unfold z1t at h
 obtain ⟨x,_,h2⟩:=bnd h
 obtain ⟨h3,h4⟩:=gif h2
 cases h4; exact h3.symm
noncomputable def y1a (v3:Int) (a:Option yj):Option Bool:=a.bind fun c=>z9w c v3
noncomputable def y3t (cs:List yj) (v3:Int):Option Int:=z91 (cs.map some) (y1a v3)
noncomputable def z5r (s:qb) (ph:List zz) (ats:List Int) (nb:Nat) (v3:Int) (st:StA):Option (StA ⊕ StA):=
 if nb=st.2.2.2.length then (y3t st.2.2.2 v3).bind fun k=>if decide (k < 0)=true then some (.inr st) else
  (at? st.2.2.2 k).bind fun c=>(We s ph ats st.1 st.2.1 st.2.2.1 c k v3).bind fun r=>some (.inl (r.1,r.2.1,r.2.2.1,st.2.2.2.set k.toNat r.2.2.2)) else none
noncomputable def z9y (s:qb) (ph:List zz) (ats:List Int) (nb:Nat) (st:StA) (v3:Int):Option StA:=iter (z5r s ph ats nb v3) st
noncomputable def z3e (s:qb) (ph:List zz) (ats:List Int) (nb:Nat) (st:StA×(Int×Bool)):Option ((StA×(Int×Bool)) ⊕ StA):=
 if st.2.2=true then (z7a s ats nb st.1 st.2.1).bind fun a=>(z9y s ph ats nb (a.1,st.1.2.1.filter (neE st.2.1),a.2.1,a.2.2) st.2.1).bind fun b=>if nb=b.2.2.2.length then (z3u b.2.1 b.2.2.2).bind fun n=>some (.inl (b,n)) else none else if nb=st.1.2.2.2.length then some (.inr st.1) else none
def kn (c:yi):yj:=⟨0,c.At,[],⟨c.Id,[],0,0⟩⟩
noncomputable def Wa (s:qb) (ph:List zz) (cl:List yi):Option (List yf×Int):=
 (z6c s).bind fun e=>if decide (e≠0)=true then some ([],e) else (z6d s.Instances ph).bind fun e=>if decide (e≠0)=true then some ([],e) else
  (z6e cl).bind fun e=>if decide (e≠0)=true then some ([],e) else if decide ((s.Instances.length:Int)=0)=true then some ([],8) else
   if s.Instances.length≤1000000∧cl.length≤1000000 then (z3u [] (cl.map kn)).bind fun n =>
    (iter (z3e s ph (cl.map (·.At)) cl.length) (([],[],⟨s.Outliers,List.replicate s.Instances.length ⟨0,0,0⟩⟩,cl.map kn),n)).bind fun f=>if f.2.2.2.length≤1000000 then some (f.2.2.2.map (·.out_),0) else none else none
section
variable {g:Gh} {w:World} {M M0:Blks} {D:Dc} {v:Dv} {fb fm:Nat→Nat} {fh:Nat→Value} {cs:List yj}
theorem y0h (he:Ext M M0 w w) (hb:cs.length=D.bs.length∧∀ k c,cs[k]?=some c→D.bs[k]?=some (fb k)) (hr:∀ p,p∈famC fb fm fh cs→RepO g w M p.1 p.2) (hm:∀ p b,p∈famC fb fm fh cs→obk g p.1 p.2=some b→¬ M0 b) (y:Value) (hy:(vbs D.bs).p w M y):(vlst (List.map C_pc cs)).p w M0 y:=by
 obtain ⟨A,n,h1,h2,h3⟩:=hy
 refine ⟨A,n,by rw [h1,List.length_map,List.length_map,hb.1],by rw [List.length_map] at h2 ⊢; rw [hb.1]; exact h2,fun hne => ?_⟩
 have hne2:cs≠[]:=by rintro rfl; exact hne rfl
 obtain ⟨b,off,size,q1,q2,arr,e,fz,q3,q4,q5⟩:=h3 (by
  intro h
  have h4:=congrArg List.length h
  rw [List.length_map,← hb.1] at h4
  exact hne2 (List.length_eq_zero_iff.1 h4))
 obtain ⟨c0,cs',rfl⟩:=List.exists_cons_of_ne_nil hne2
 have hs:size=1:=by
  have h5:=hb.2 0 c0 rfl
  have h6:=q4 [vval (PB (fb 0))] (List.mem_map.2 ⟨fb 0,List.mem_of_getElem? h5,rfl⟩)
  exact h6.symm
 subst hs
 refine ⟨b,off,1,q1,fun h=>q2 (he.sub b (z14 q3) h),arr,e,fz,q3,fun el hel => ?_,fun k c el u hk hc => ?_⟩
 ·obtain ⟨x,_,rfl⟩:=List.mem_map.1 hel; rfl
 ·rw [List.getElem?_map] at hk
  obtain ⟨c1,hk1,rfl⟩:=Option.map_eq_some_iff.1 hk
  have hc0:c=0:=by have:=(List.getElem?_eq_some_iff.1 hc).1; simp at this; exact this
  subst hc0
  cases hc
  obtain ⟨x,r1,r2,r3⟩:=q5 k 0 [vval (PB (fb k))] (vval (PB (fb k))) (by rw [List.getElem?_map,hb.2 k c1 hk1]; rfl) rfl
  refine ⟨x,r1,?_,r3⟩
  have r2:x=PB (fb k):=r2
  subst r2
  have m0:(4 * k+1000,oC (fb k) (fm k) (fh k) c1)∈famC fb fm fh (c0::cs'):=Yp.2 ⟨k,c1,hk1,.inl rfl⟩
  have m1:(4 * k+1001,oM (fm k) c1)∈famC fb fm fh (c0::cs'):=Yp.2 ⟨k,c1,hk1,.inr (.inl rfl)⟩
  have m2:(4 * k+1002,oR (fh k) c1)∈famC fb fm fh (c0::cs'):=Yp.2 ⟨k,c1,hk1,.inr (.inr rfl)⟩
  refine y0j (hr _ m0) (fun b hb=>hm _ b m0 hb) ⟨fun x hx=>V.keep _ he hx,fun x hx=>V.keep _ he hx,fun x hx => ?_,fun x hx=>V.keep _ he hx,fun x hx => ?_,fun x hx=>V.keep _ he hx,fun x hx=>V.keep _ he hx,trivial⟩
  ·have hx:x = .map (some (fm k)):=hx
   subst hx
   have h':=hr _ m1
   obtain ⟨b',o,p1,p0,p2⟩:=h'
   obtain rfl:fm k=b':=p0 _ rfl
   exact y8y (hr _ m1) p1 (hm _ _ m1 p1)
  ·have hx:x=fh k:=hx
   subst hx
   exact z5y he (hr _ m2) fun b hb=>hm _ b m2 hb
end
end Go.Proofs.YtgdijjmdfcgifaaGreat
