/- Plain: slices.SortFunc and slices.SortStableFunc at few elements: two insertion sorts that go side by side. -/
import Derived.Test.YthmmalklamiefaaGreatDoorOkZc
namespace Go.Proofs.YthmmalklamiefaaGreatDoor
set_option linter.unusedVariables false
set_option maxRecDepth 20000
section
variable {α β σ τ ρ ρ':Type}
theorem w4l {body:σ→Option (σ ⊕ ρ)} {s s':σ} (h:body s=some (.inl s')):iter body s=iter body s':=by
 have key:∀ r,iter body s=some r↔iter body s'=some r:=fun r=>by
  rw [y4x,y4x]
  constructor
  ·rintro ⟨n,hn⟩
   cases n with
   | zero=>cases hn
   | succ n =>
    have hn:(body s).bind (after (itN body n))=some r:=hn
    rw [h] at hn
    exact ⟨n,hn⟩
  ·rintro ⟨n,hn⟩
   exact ⟨n+1,by show (body s).bind (after (itN body n))=some r; rw [h]; exact hn⟩
 cases h1:iter body s' with
 | some r=>exact (key r).2 h1
 | none =>
  cases h2:iter body s with
  | none=>rfl
  | some r=>rw [(key r).1 h2] at h1; cases h1
theorem x2v {body:σ→Option (σ ⊕ ρ)} {s:σ} {r:ρ} (h:body s=some (.inr r)):iter body s=some r:=
 y4x.2 ⟨1,by show (body s).bind (after (itN body 0))=some r; rw [h]; rfl⟩
def gJ4 (i j:Int) (l:List α) (v:Bool):Option ((Int×List α) ⊕ ((Int×List α) ⊕ List α)):=
 if v then ((at? l (wr (j - 1))).bind fun (x22:α)=>(at? l j).bind fun (x24:α)=>(at? (l.set j.toNat x22) (wr (j - 1))).bind fun (x26:α)=>some (.inl (wr (j - 1),((l.set j.toNat x22).set ((wr (j - 1)).toNat) x24)))) else (Option.map .inr (some (.inl (wr (i+1),l))))
def gL3 (a:Int) (p:α→α→Option Int) (i j:Int) (l:List α):Option ((Int×List α) ⊕ ((Int×List α) ⊕ List α)):=
 if decide (a < j) then ((at? l j).bind fun (x13:α)=>(at? l (wr (j - 1))).bind fun (x15:α)=>(p x13 x15).bind fun (r17:Int)=>gJ4 i j l (decide (r17 < 0))) else (gJ4 i j l false)
noncomputable def gL1 (a b:Int) (p:α→α→Option Int) (i:Int) (l:List α):Option ((Int×List α) ⊕ List α):=
 if decide (i < b) then (iter (fun (s:Int×List α)=>gL3 a p i s.1 s.2) (i,l)) else (some (.inr l))
noncomputable def gIns (l:List α) (a b:Int) (p:α→α→Option Int):Option (List α):=iter (fun (s:Int×List α)=>gL1 a b p s.1 s.2) (wr (a+1),l)
theorem w5z (A C:List α) (x:α):at? (A++x::C) (A.length:Int)=some x:=by
 rw [x0z]; simp
theorem w3r (A C:List α) (y x:α):((A++y::x::C).set (A.length+1) y).set A.length x=A++x::y::C:=by
 induction A with
 | nil=>rfl
 | cons a A ih=>simp only [List.cons_append,List.length_cons,List.set_cons_succ,ih]
section
variable {p:α→α→Option Int} {q:β→β→Option Int} {f:α→β}
def w4n (p:α→α→Option Int) (q:β→β→Option Int) (f:α→β) (x y:α):Prop:=∃ c d,p x y=some c∧q (f x) (f y)=some d∧(c < 0↔d < 0)
theorem x8r (i:Int) (l:List α):gL3 0 p i 0 l=some (.inr (.inl (wr (i+1),l))):=by
 unfold gL3 gJ4
 simp
theorem x8s (i:Int) (A C:List α) (y x:α) {c:Int} (hA:A.length≤1000000) (hp:p x y=some c) (hc:¬ c < 0):gL3 0 p i ((A.length+1:Nat):Int) (A++y::x::C)=some (.inr (.inl (wr (i+1),A++y::x::C))):=by
 have e1:wr (((A.length+1:Nat):Int) - 1)=(A.length:Int):=by rw [z6j (by omega)]; omega
 have e2:at? (A++y::x::C) ((A.length+1:Nat):Int)=some x:=by rw [x0z]; simp
 unfold gL3 gJ4
 rw [if_pos (by simp),e1,e2,w5z]
 simp only [Option.bind_some,hp]
 rw [if_neg (by simpa using hc)]; rfl
theorem x8t (i:Int) (A C:List α) (y x:α) {c:Int} (hA:A.length≤1000000) (hp:p x y=some c) (hc:c < 0):gL3 0 p i ((A.length+1:Nat):Int) (A++y::x::C)=some (.inl ((A.length:Int),A++x::y::C)):=by
 have e1:wr (((A.length+1:Nat):Int) - 1)=(A.length:Int):=by rw [z6j (by omega)]; omega
 have e2:at? (A++y::x::C) ((A.length+1:Nat):Int)=some x:=by rw [x0z]; simp
 unfold gL3 gJ4
 rw [if_pos (by simp),e1,e2,w5z]
 simp only [Option.bind_some,hp]
 rw [if_pos (by simpa using hc)]
 simp only [Int.toNat_natCast]
 have e3:at? ((A++y::x::C).set (A.length+1) y) (A.length:Int)=some y:=by
  rw [x0z,List.getElem?_set_ne (by omega)]; simp
 rw [e3]
 simp only [Option.bind_some]
 rw [w3r]
theorem w14 (i:Int) (x:α) (C:List α):∀ (n:Nat) (A B:List α),A.length=n→n≤1000000→(∀ y,y∈A→w4n p q f x y) →
  ∃ A' B',A'++B'=A++B∧iter (fun (s:Int×List α)=>gL3 0 p i s.1 s.2) ((n:Int),A++x::(B++C))=some (.inl (wr (i+1),A'++x::(B'++C))) ∧
   iter (fun (s:Int×List β)=>gL3 0 q i s.1 s.2) ((n:Int),(A++x::(B++C)).map f)=some (.inl (wr (i+1),(A'++x::(B'++C)).map f)):=by
 intro n
 induction n with
 | zero =>
  intro A B hA _ _
  exact ⟨A,B,rfl,x2v (x8r i _),x2v (x8r i _)⟩
 | succ n ih =>
  intro A B hA hn hg
  obtain ⟨A0,y,rfl⟩:∃ A0 y,A=A0++[y]:=by
   rcases List.eq_nil_or_concat A with rfl | ⟨A0,y,h⟩
   ·simp at hA
   ·exact ⟨A0,y,by simpa using h⟩
  have hA0:A0.length=n:=by simpa using hA
  obtain ⟨c,d,h1,h2,h3⟩:=hg y (by simp)
  subst hA0
  have e1:(A0++[y])++x::(B++C)=A0++y::x::(B++C):=by simp
  have e2:(A0++y::x::(B++C)).map f=A0.map f++f y::f x::(B++C).map f:=by simp
  have hl:A0.length=(A0.map f).length:=by simp
  by_cases hc:c < 0
  ·obtain ⟨A',B',q1,q2,q3⟩:=ih A0 (y::B) rfl (by omega) (fun z hz=>hg z (List.mem_append_left _ hz))
   refine ⟨A',B',by rw [q1]; simp,?_,?_⟩
   ·rw [e1]
    exact (w4l (x8t i A0 (B++C) y x (by omega) h1 hc)).trans q2
   ·rw [e1,e2]
    have h4:=x8t i (A0.map f) ((B++C).map f) (f y) (f x) (by rw [← hl]; omega) h2 (h3.1 hc)
    rw [← hl] at h4
    refine (w4l h4).trans ?_
    have e3:(A0++x::(y::B++C)).map f=A0.map f++f x::f y::(B++C).map f:=by simp
    rw [← e3]; exact q3
  ·refine ⟨A0++[y],B,rfl,?_,?_⟩
   ·rw [e1]
    exact x2v (x8s i A0 (B++C) y x (by omega) h1 hc)
   ·rw [e1,e2]
    have h4:=x8s i (A0.map f) ((B++C).map f) (f y) (f x) (by rw [← hl]; omega) h2 (fun h=>hc (h3.2 h))
    rw [← hl] at h4
    exact x2v h4
theorem x58 (m:Nat):∀ (rest pre:List α),pre.length+rest.length=m→m≤1000000→(∀ y x,y∈pre→x∈rest→w4n p q f x y)→rest.Pairwise (fun y x=>w4n p q f x y) →
  ∃ r,r.Perm (pre++rest)∧iter (fun (s:Int×List α)=>gL1 0 (m:Int) p s.1 s.2) ((pre.length:Int),pre++rest)=some r ∧
   iter (fun (s:Int×List β)=>gL1 0 (m:Int) q s.1 s.2) ((pre.length:Int),(pre++rest).map f)=some (r.map f)
 | [],pre,hm,_,_,_=>by
  refine ⟨pre++[],List.Perm.refl _,x2v ?_,x2v ?_⟩
  ·unfold gL1; rw [if_neg (by simp at hm; simp; omega)]
  ·unfold gL1; rw [if_neg (by simp at hm; simp; omega)]
 | x::rest,pre,hm,hb,hg,hp=>by
  simp only [List.length_cons] at hm
  obtain ⟨hp1,hp2⟩:=List.pairwise_cons.1 hp
  obtain ⟨A',B',q1,q2,q3⟩:=w14 (p:=p) (q:=q) (f:=f) (pre.length:Int) x rest pre.length pre [] rfl (by omega) (fun y hy=>hg y x hy (by simp))
  rw [List.append_nil] at q1
  rw [List.nil_append] at q2 q3
  have hw:wr ((pre.length:Int)+1)=((pre.length+1:Nat):Int):=w7r (by omega)
  have hlen:(A'++x::B').length=pre.length+1:=by
   have:=congrArg List.length q1
   simp at this ⊢; omega
  have hperm:(A'++x::B').Perm (x::pre):=by
   rw [← q1]; exact List.perm_middle
  obtain ⟨r,r1,r2,r3⟩:=x58 m rest (A'++x::B') (by rw [hlen]; omega) hb (fun y z hy hz=>by
   rcases List.mem_cons.1 (hperm.mem_iff.1 hy) with rfl | hy
   ·exact hp1 z hz
   ·exact hg y z hy (List.mem_cons_of_mem _ hz)) hp2
  have e0:A'++x::(B'++rest)=(A'++x::B')++rest:=by simp
  rw [hlen,← hw,← e0] at r2 r3
  have hlt:decide ((pre.length:Int) < (m:Int))=true:=by simp; omega
  refine ⟨r,r1.trans ?_,?_,?_⟩
  ·refine (hperm.append_right rest).trans ?_
   exact List.perm_middle.symm
  ·refine (w4l (s':=(wr ((pre.length:Int)+1),A'++x::(B'++rest))) ?_).trans r2
   unfold gL1
   rw [if_pos hlt]
   exact q2
  ·refine (w4l (s':=(wr ((pre.length:Int)+1),(A'++x::(B'++rest)).map f)) ?_).trans r3
   unfold gL1
   rw [if_pos hlt]
   exact q3
theorem w4r (l:List α) (h:l.length≤1000000) (hp:l.Pairwise fun y x=>w4n p q f x y):∃ r,r.Perm l∧gIns l 0 (l.length:Int) p=some r∧gIns (l.map f) 0 (l.length:Int) q=some (r.map f):=by
 have hw:wr ((0:Int)+1)=1:=by decide
 unfold gIns
 rw [hw]
 cases l with
 | nil =>
  refine ⟨[],List.Perm.refl _,x2v ?_,x2v ?_⟩
  ·unfold gL1; rw [if_neg (by simp)]
  ·unfold gL1; rw [if_neg (by simp)]
 | cons x l =>
  obtain ⟨hp1,hp2⟩:=List.pairwise_cons.1 hp
  obtain ⟨r,r1,r2,r3⟩:=x58 (x::l).length l [x] (by simp only [List.length_cons,List.length_nil]; omega) h (fun y z hy hz=>by rw [List.mem_singleton.1 hy]; exact hp1 z hz) hp2
  exact ⟨r,r1,r2,r3⟩
end
noncomputable def gPdq (v1:List α) (v2 v3 v4:Int) (p4:α→α→Option Int):Option (List α):=
 iter (fun (s:Int×Int×Int×Bool×Bool)=>if decide ((wr (s.2.1 - s.1))≤12) then ((gIns v1 s.1 s.2.1 p4).bind fun (r12:List α)=>if r12.length=v1.length then (some (.inr r12)) else none) else (if decide (s.2.2.1=0) then none else none)) (v2,v3,v4,true,true)
noncomputable def w9l (n2:Int) (bs a19 b20:Int):Option ((Int×Int) ⊕ (Int ⊕ List α)):=
 if decide (b20≤n2) then none else (Option.map .inr (if decide ((wr (a19+bs)) < n2) then none else (some (.inl (wr (bs * 2))))))
noncomputable def w66 (n2:Int) (r13:List α) (bs:Int):Option (Int ⊕ List α):=
 if decide (bs < n2) then (iter (fun (s:Int×Int)=>w9l n2 bs s.1 s.2) (0,wr (2 * bs))) else (some (.inr r13))
noncomputable def w8p (n2:Int) (p2:α→α→Option Int) (a11:Int) (d12:List α):Option (List α):=
 (gIns d12 a11 n2 p2).bind fun (r13:List α)=>if r13.length=d12.length then (iter (fun (s:Int)=>w66 n2 r13 s) 20) else none
noncomputable def w67 (n2:Int) (p2:α→α→Option Int) (a3 b4:Int) (l5:List α):Option ((Int×Int×List α) ⊕ List α):=
 if decide (b4≤n2) then ((gIns l5 a3 b4 p2).bind fun (r8:List α)=>if r8.length=l5.length then (some (.inl (b4,wr (b4+20),r8))) else none) else (Option.map .inr (w8p n2 p2 a3 l5))
noncomputable def w9k (d1:List α) (n2:Int) (p2:α→α→Option Int):Option (List α):=iter (fun (s:Int×Int×List α)=>w67 n2 p2 s.1 s.2.1 s.2.2) (0,20,d1)
theorem w4o (l r:List α) (p:α→α→Option Int) (h:l.length≤19) (hr:gIns l 0 (l.length:Int) p=some r) (hl:r.length=l.length):w9k l (l.length:Int) p=some r:=by
 refine x2v ?_
 show w67 (l.length:Int) p 0 20 l=_
 unfold w67 w8p
 rw [if_neg (by simp; omega),hr]
 simp only [Option.bind_some]
 rw [if_pos hl]
 have:iter (fun (s:Int)=>w66 (l.length:Int) r s) 20=some r:=by
  refine x2v ?_
  unfold w66
  rw [if_neg (by simp; omega)]
 rw [this]; rfl
end
end Go.Proofs.YthmmalklamiefaaGreatDoor
