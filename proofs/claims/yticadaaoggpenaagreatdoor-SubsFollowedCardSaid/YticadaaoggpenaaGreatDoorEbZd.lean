/- Plain: subscriptions that follow from events: the program's book and the reference's stages. -/
import Derived.Test.YticadaaoggpenaaGreatDoorEgZd
import Derived.Test.YticadaaoggpenaaGreatDoorEaZd
import Derived.Test.YticadaaoggpenaaGreatDoorMl
namespace Go.Proofs.YticadaaoggpenaaGreatDoor
set_option linter.unusedVariables false
set_option linter.unusedSimpArgs false
set_option linter.unusedSectionVars false
set_option maxRecDepth 20000
def SI (s:z0h):Prop:=(0≤s.State∧s.State≤4)∧(s.State=1→s.First < 0)∧(s.State=2∨s.State=3→0≤s.First)
def folF (s:z0h) (x:z0e) (asked:Bool):z0h×Bool:=
 if x.Kind=1 then
  if s.State=2∨s.State=3 then (if x.Plan=s.Plan∨asked=true then (s,false) else (z0h.mk s.State x.Plan x.At s.First,true))
  else if s.State=1 then (s,false) else if asked=true then (z0h.mk 1 x.Plan x.At (-1),true) else (z0h.mk 2 x.Plan x.At x.At,true)
 else if x.Kind=2 then (if s.State=1 then (z0h.mk 2 s.Plan x.At x.At,true) else (s,false))
 else if x.Kind=3 then (if s.State=1 then (z0h.mk 4 s.Plan x.At s.First,true) else (s,false))
 else if x.Kind=4 then (if s.State=2 then (z0h.mk 3 s.Plan x.At s.First,true) else (s,false))
 else if x.Kind=5 then (if s.State=3 then (z0h.mk 2 s.Plan x.At s.First,true) else (s,false))
 else if s.State=1∨s.State=2∨s.State=3 then (z0h.mk 4 s.Plan x.At s.First,true) else (s,false)
def askP (c:z0g) (x:z0e):Bool:=match at? c.Plans (ixL c x.Plan) with | some p=>p.Asked | none=>false
def fol (c:z0g) (s:z0h) (x:z0e):z0h×Bool:=folF s x (askP c x)
theorem w4r {c:z0g} {apps:List z0t} {s:z0h} {x:z0e} (hs:SI s) (hx:EOk c apps x):SI (fol c s x).1∧((fol c s x).2=false→(fol c s x).1=s):=by
 obtain ⟨h1,h2,h3⟩:=hs
 have ht:=hx.t
 unfold fol folF SI
 generalize askP c x=a
 repeat' split
 all_goals first
  | exact ⟨⟨h1,h2,h3⟩,fun _=>rfl⟩
  | exact ⟨⟨by simp only; omega,by simp only; omega,by simp only; omega⟩,fun h=>by cases h⟩
theorem w6b {c:z0g} {apps:List z0t} {s:z0h} {x:z0e} (hb:CB c) (hc:catF c=0) (hs:SI s) (hx:EOk c apps x):y0j c s x=some (fol c s x):=by
  obtain ⟨h1,h2,h3⟩:=hs
  have ht:=hx.t
  have hk:=hx.k
  obtain ⟨⟨_,hpl⟩,_⟩:=y5i hc
  have hst:s.State=0∨s.State=1∨s.State=2∨s.State=3∨s.State=4:=by omega
  unfold y0j fol
  by_cases k1:x.Kind=1
  · have hq:=hx.l k1
    rcases y6d c x.Plan hb.nl hpl with ⟨q1,_⟩ | ⟨_,q2,y,q3,q4,q5,q6⟩
    · rw [q1] at hq; cases hq
    · have ea:askP c x=y.Asked:=by unfold askP; rw [q3]
      rw [if_pos (by simpa using k1),q6,ea]
      unfold y3e y1z folF
      simp only [Option.bind_some,q5]
      rw [if_pos k1]
      rcases hst with e | e | e | e | e <;> simp only [e] <;> by_cases a1:x.Plan=s.Plan <;> rcases Bool.eq_false_or_eq_true y.Asked with a2 | a2 <;> simp [a1,a2]
  · have hk2:x.Kind=2∨x.Kind=3∨x.Kind=4∨x.Kind=5∨x.Kind=6:=by omega
    rw [if_neg (by simpa using k1)]
    unfold y36 y1z y1d z8a folF
    have hcase:∀ n:Int,s.State=n→((n=1→s.First < 0)∧(n=2∨n=3→0≤s.First)):=fun n hn=>by rw [← hn]; exact ⟨h2,h3⟩
    rcases hst with e | e | e | e | e <;> have hf:=hcase _ e <;> rcases hk2 with k | k | k | k | k <;> simp only [e,k] <;> first
      | (simp; done)
      | (have h9:¬ s.First < 0:=by have:=hf.2 (by simp); omega
         simp [h9]; done)
      | (have h9:s.First < 0:=hf.1 (by simp)
         simp [h9]; done)
theorem w6a {c:z0g} {apps:List z0t} {s:z0h} {x:z0e} (hb:CB c) (hc:catF c=0) (hs:SI s) (hx:EOk c apps x):z60 c s x=some (fol c s x):=by
 obtain ⟨h1,h2,h3⟩:=hs
 have hk:=hx.k
 obtain ⟨⟨_,hpl⟩,_⟩:=y5i hc
 have hst:s.State=0∨s.State=1∨s.State=2∨s.State=3∨s.State=4:=by omega
 have hp:z35 c x.Plan=some (ixL c x.Plan):=y9z c x.Plan hb.nl
 unfold z60 fol z7i z7h z7g z3f
 by_cases k1:x.Kind=1
 ·have hq:=hx.l k1
  rcases y6d c x.Plan hb.nl hpl with ⟨q1,_⟩ | ⟨_,q2,y,q3,q4,q5,q6⟩
  ·rw [q1] at hq; cases hq
  ·have ea:askP c x=y.Asked:=by unfold askP; rw [q3]
   have q7:decide (ixL c x.Plan < 0)=false:=by simp; omega
   rw [ea]
   unfold folF
   simp only [hp,q3,q7,Option.bind_some,x4e]
   rcases hst with e | e | e | e | e <;> simp only [e,k1] <;> by_cases a1:x.Plan=s.Plan <;> rcases Bool.eq_false_or_eq_true y.Asked with a2 | a2 <;> simp [a1,a2]
 ·have hk2:x.Kind=2∨x.Kind=3∨x.Kind=4∨x.Kind=5∨x.Kind=6:=by omega
  unfold folF
  simp only [x4e,Option.bind_some]
  rcases hst with e | e | e | e | e <;> rcases hk2 with k | k | k | k | k <;> simp only [e,k] <;> simp [outP]
def z9x:z0h:=z0h.mk 0 [] 0 (-1)
theorem x9y:SI z9x:=⟨by simp [z9x],by simp [z9x],by simp [z9x]⟩
noncomputable def bk (m:List (z0q×z0h)) (a p:Bs):z0h:=(lkG m (z0q.mk a p)).getD z9x
theorem x8u (b:z17) (a p:Bs) (ha:a.length≤1000000∧p.length≤1000000):z9b b a p=some (bk b.subs_ a p):=by
 unfold z9b y1y bk
 rw [if_pos ⟨by omega,by omega⟩]
 cases lkG b.subs_ (z0q.mk a p) with
 | none=>rfl
 | some v=>rfl
def upS (st:Bs→Bs→z0h) (a p:Bs) (s:z0h):Bs→Bs→z0h:=fun a' p'=>if a'=a∧p'=p then s else st a' p'
theorem w7t (m:List (z0q×z0h)) (a p:Bs) (s:z0h):bk (ptG m (z0q.mk a p) s)=upS (bk m) a p s:=by
 funext a' p'
 unfold bk upS
 rw [x6v]
 by_cases h:a'=a∧p'=p
 ·obtain ⟨rfl,rfl⟩:=h
  rw [if_pos rfl,if_pos ⟨rfl,rfl⟩]; rfl
 ·have h2:¬ z0q.mk a p=z0q.mk a' p':=fun e=>by
   injection e with e1 e2
   exact h ⟨e1.symm,e2.symm⟩
  rw [if_neg h2,if_neg h]
def runR (c:z0g):(Bs→Bs→z0h)→Nat→List z0e→List (Int×Bs×Bs)
 | _,_,[]=>[]
 | st,k,x::l=>if (fol c (st x.App x.Product) x).2=true then runR c (upS st x.App x.Product (fol c (st x.App x.Product) x).1) (k+1) l else ((k:Int),x.App,x.Product)::runR c st (k+1) l
def runS (c:z0g):(Bs→Bs→z0h)→List z0e→(Bs→Bs→z0h)
 | st,[]=>st
 | st,x::l=>if (fol c (st x.App x.Product) x).2=true then runS c (upS st x.App x.Product (fol c (st x.App x.Product) x).1) l else runS c st l
theorem w6x {st:Bs→Bs→z0h} {a p:Bs} {s:z0h} (h:∀ a p,SI (st a p)) (hs:SI s):∀ a' p',SI (upS st a p s a' p'):=fun a' p'=>by
 unfold upS
 split
 ·exact hs
 ·exact h a' p'
section
variable {c:z0g} {apps:List z0t} (hb:CB c) (hc:catF c=0)
include hb hc
end
def stR (c:z0g) (a p:Bs):z0h→Nat→List z0e→List Int
 | _,_,[]=>[]
 | s,k,x::l=>if x.App=a∧x.Product=p then (if (fol c s x).2=true then stR c a p (fol c s x).1 (k+1) l else (k:Int)::stR c a p s (k+1) l) else stR c a p s (k+1) l
def stS (c:z0g) (a p:Bs):z0h→List z0e→List z0h
 | _,[]=>[]
 | s,x::l=>if x.App=a∧x.Product=p then (if (fol c s x).2=true then (fol c s x).1::stS c a p (fol c s x).1 l else stS c a p s l) else stS c a p s l
section
variable {c:z0g} {apps:List z0t} (hb:CB c) (hc:catF c=0)
include hb hc
theorem y7l (a p:Bs):∀ (l:List z0e) (k:Nat) (out:List z0h) (s:z0h) (ref:List Int),(∀ x,x∈l→EOk c apps x)→SI s→out.length+l.length≤1000000→ref.length+l.length≤1000000 →
  forL (fun (k:Nat) (x:z0e) (s:(List z0h)×(List Int))=>z6s c a p k x s.1 s.2) (fun (s:(List z0h)×(List Int))=>z8f s.1 s.2) k l (out++[s],ref)=some (out++[s]++stS c a p s l,ref++stR c a p s k l)
 | [],k,out,s,ref,_,_,_,_=>by
  show z8f (out++[s]) ref=_
  unfold z8f
  simp [stS,stR]
 | x::l,k,out,s,ref,hx,hs,h1,h2=>by
  simp only [List.length_cons] at h1 h2
  have x1:=hx x (by simp)
  have e2:=w6a hb hc hs x1
  obtain ⟨f1,f2⟩:=w4r hs x1
  have hstep:z6s c a p k x (out++[s]) ref=if x.App=a∧x.Product=p then (if (fol c s x).2=true then some (.inl (out++[s]++[(fol c s x).1],ref)) else some (.inl (out++[s],ref++[(k:Int)]))) else some (.inl (out++[s],ref)):=by
   have e0:(decide (x.App≠a) || decide (x.Product≠p)) = !decide (x.App=a∧x.Product=p):=by
    by_cases q1:x.App=a <;> by_cases q2:x.Product=p <;> simp [q1,q2]
   unfold z6s z6t
   rw [e0]
   by_cases hp:x.App=a∧x.Product=p
   ·have e1:at? (out++[s]) (wr (((out++[s]).length:Int) - 1))=some s:=by
     simp only [List.length_append,List.length_cons,List.length_nil]
     rw [y0x (by omega)]
     have:((out.length+(0+1):Nat):Int) - 1=(out.length:Int):=by omega
     rw [this,x0p]
     simp
    have e3:(!decide (x.App=a∧x.Product=p))=false:=by rw [decide_eq_true hp]; rfl
    rw [e3,if_neg (by simp),e1,if_pos hp]
    simp only [Option.bind_some,e2]
    cases (fol c s x).2
    ·simp only [Bool.false_eq_true,if_false]
     rw [if_pos (by omega)]
    ·simp only [if_true]
     rw [if_pos (by simp; omega)]
   ·have e3:(!decide (x.App=a∧x.Product=p))=true:=by rw [decide_eq_false hp]; rfl
    rw [e3,if_pos rfl,if_neg hp]
  show (z6s c a p k x (out++[s]) ref).bind _=_
  rw [hstep]
  by_cases hp:x.App=a∧x.Product=p
  ·rw [if_pos hp]
   cases hf:(fol c s x).2
   ·simp only [Bool.false_eq_true,if_false,Option.bind_some,after]
    rw [y7l a p l (k+1) out s (ref++[(k:Int)]) (fun y hy=>hx y (by simp [hy])) hs (by omega) (by simp; omega)]
    simp [stS,stR,hp,hf]
   ·simp only [if_true,Option.bind_some,after]
    rw [y7l a p l (k+1) (out++[s]) (fol c s x).1 ref (fun y hy=>hx y (by simp [hy])) f1 (by simp; omega) (by omega)]
    simp [stS,stR,hp,hf]
  ·rw [if_neg hp]
   simp only [Option.bind_some,after]
   rw [y7l a p l (k+1) out s ref (fun y hy=>hx y (by simp [hy])) hs (by omega) (by omega)]
   simp only [stS,stR,if_neg hp]
theorem x9s (l:List z0e) (a p:Bs) (hx:∀ x,x∈l→EOk c apps x) (hl:l.length≤100000):y0m c l a p=some (z9x::stS c a p z9x l,stR c a p z9x 0 l):=by
 unfold y0m z7x
 simp only [Option.bind_some]
 rw [if_pos (by omega)]
 have:=y7l (apps:=apps) hb hc a p l 0 [] z9x [] hx x9y (by simp; omega) (by simp; omega)
 simp only [List.nil_append] at this
 exact this
end
theorem w21 {l l':List Int} (hp:l.Perm l') (h:l'.Pairwise fun x y=>x < y):(l.mergeSort fun x y=>decide (x≤y))=l':=by
 have h1:=List.pairwise_mergeSort (le:=fun x y:Int=>decide (x≤y)) (fun a b c h k=>by
  have h:=of_decide_eq_true h
  have k:=of_decide_eq_true k
  exact decide_eq_true (Int.le_trans h k)) (fun a b=>by
  rcases Int.le_total a b with h | h <;> simp [h]) l
 refine List.Perm.eq_of_pairwise (le:=fun x y:Int=>x≤y) (fun a b _ _ hab hba=>Int.le_antisymm hab hba) (h1.imp fun h=>of_decide_eq_true h) (h.imp fun h=>Int.le_of_lt h) ((List.mergeSort_perm _ _).trans hp)
end Go.Proofs.YticadaaoggpenaaGreatDoor
