/- Plain: subscriptions that follow from events: the program's book and the reference's stages. -/
import Derived.Test.YthmmalklamiefaaGreatDoorEgZc
import Derived.Test.YthmmalklamiefaaGreatDoorEaZc
import Derived.Test.YthmmalklamiefaaGreatDoorMl
namespace Go.Proofs.YthmmalklamiefaaGreatDoor
set_option linter.unusedVariables false
set_option linter.unusedSimpArgs false
set_option linter.unusedSectionVars false
set_option maxRecDepth 20000
def SI (s:z0o):Prop:=(0≤s.State∧s.State≤4)∧(s.State=1→s.First < 0)∧(s.State=2∨s.State=3→0≤s.First)
def folF (s:z0o) (x:z0f) (asked:Bool):z0o×Bool:=
 if x.Kind=1 then
  if s.State=2∨s.State=3 then (if x.Plan=s.Plan∨asked=true then (s,false) else (z0o.mk s.State x.Plan x.At s.First,true))
  else if s.State=1 then (s,false) else if asked=true then (z0o.mk 1 x.Plan x.At (-1),true) else (z0o.mk 2 x.Plan x.At x.At,true)
 else if x.Kind=2 then (if s.State=1 then (z0o.mk 2 s.Plan x.At x.At,true) else (s,false))
 else if x.Kind=3 then (if s.State=1 then (z0o.mk 4 s.Plan x.At s.First,true) else (s,false))
 else if x.Kind=4 then (if s.State=2 then (z0o.mk 3 s.Plan x.At s.First,true) else (s,false))
 else if x.Kind=5 then (if s.State=3 then (z0o.mk 2 s.Plan x.At s.First,true) else (s,false))
 else if s.State=1∨s.State=2∨s.State=3 then (z0o.mk 4 s.Plan x.At s.First,true) else (s,false)
def askP (c:z0i) (x:z0f):Bool:=match at? c.Plans (ixL c x.Plan) with | some p=>p.Asked | none=>false
def fol (c:z0i) (s:z0o) (x:z0f):z0o×Bool:=folF s x (askP c x)
theorem w5w {c:z0i} {apps:List z0s} {s:z0o} {x:z0f} (hs:SI s) (hx:EOk c apps x):SI (fol c s x).1∧((fol c s x).2=false→(fol c s x).1=s):=by
 obtain ⟨h1,h2,h3⟩:=hs
 have ht:=hx.t
 unfold fol folF SI
 generalize askP c x=a
 repeat' split
 all_goals first
  | exact ⟨⟨h1,h2,h3⟩,fun _=>rfl⟩
  | exact ⟨⟨by simp only; omega,by simp only; omega,by simp only; omega⟩,fun h=>by cases h⟩
theorem w7d {c:z0i} {apps:List z0s} {s:z0o} {x:z0f} (hb:CB c) (hc:catF c=0) (hs:SI s) (hx:EOk c apps x):y1t c s x=some (fol c s x):=by
  obtain ⟨h1,h2,h3⟩:=hs
  have ht:=hx.t
  have hk:=hx.k
  obtain ⟨⟨_,hpl⟩,_⟩:=y5n hc
  have hst:s.State=0∨s.State=1∨s.State=2∨s.State=3∨s.State=4:=by omega
  unfold y1t fol
  by_cases k1:x.Kind=1
  · have hq:=hx.l k1
    rcases y7c c x.Plan hb.nl hpl with ⟨q1,_⟩ | ⟨_,q2,y,q3,q4,q5,q6⟩
    · rw [q1] at hq; cases hq
    · have ea:askP c x=y.Asked:=by unfold askP; rw [q3]
      rw [if_pos (by simpa using k1),q6,ea]
      unfold y5f y3m folF
      simp only [Option.bind_some,q5]
      rw [if_pos k1]
      rcases hst with e | e | e | e | e <;> simp only [e] <;> by_cases a1:x.Plan=s.Plan <;> rcases Bool.eq_false_or_eq_true y.Asked with a2 | a2 <;> simp [a1,a2]
  · have hk2:x.Kind=2∨x.Kind=3∨x.Kind=4∨x.Kind=5∨x.Kind=6:=by omega
    rw [if_neg (by simpa using k1)]
    unfold y53 y3m y2t z9t folF
    have hcase:∀ n:Int,s.State=n→((n=1→s.First < 0)∧(n=2∨n=3→0≤s.First)):=fun n hn=>by rw [← hn]; exact ⟨h2,h3⟩
    rcases hst with e | e | e | e | e <;> have hf:=hcase _ e <;> rcases hk2 with k | k | k | k | k <;> simp only [e,k] <;> first
      | (simp; done)
      | (have h9:¬ s.First < 0:=by have:=hf.2 (by simp); omega
         simp [h9]; done)
      | (have h9:s.First < 0:=hf.1 (by simp)
         simp [h9]; done)
theorem w7c {c:z0i} {apps:List z0s} {s:z0o} {x:z0f} (hb:CB c) (hc:catF c=0) (hs:SI s) (hx:EOk c apps x):z8i c s x=some (fol c s x):=by
 obtain ⟨h1,h2,h3⟩:=hs
 have hk:=hx.k
 obtain ⟨⟨_,hpl⟩,_⟩:=y5n hc
 have hst:s.State=0∨s.State=1∨s.State=2∨s.State=3∨s.State=4:=by omega
 have hp:z3v c x.Plan=some (ixL c x.Plan):=y9v c x.Plan hb.nl
 unfold z8i fol z82 z81 z80 z3w
 by_cases k1:x.Kind=1
 ·have hq:=hx.l k1
  rcases y7c c x.Plan hb.nl hpl with ⟨q1,_⟩ | ⟨_,q2,y,q3,q4,q5,q6⟩
  ·rw [q1] at hq; cases hq
  ·have ea:askP c x=y.Asked:=by unfold askP; rw [q3]
   have q7:decide (ixL c x.Plan < 0)=false:=by simp; omega
   rw [ea]
   unfold folF
   simp only [hp,q3,q7,Option.bind_some,x4w]
   rcases hst with e | e | e | e | e <;> simp only [e,k1] <;> by_cases a1:x.Plan=s.Plan <;> rcases Bool.eq_false_or_eq_true y.Asked with a2 | a2 <;> simp [a1,a2]
 ·have hk2:x.Kind=2∨x.Kind=3∨x.Kind=4∨x.Kind=5∨x.Kind=6:=by omega
  unfold folF
  simp only [x4w,Option.bind_some]
  rcases hst with e | e | e | e | e <;> rcases hk2 with k | k | k | k | k <;> simp only [e,k] <;> simp [outP]
def y26:z0o:=z0o.mk 0 [] 0 (-1)
theorem w1b:SI y26:=⟨by simp [y26],by simp [y26],by simp [y26]⟩
noncomputable def bk (m:List (z0u×z0o)) (a p:Bs):z0o:=(lkG m (z0u.mk a p)).getD y26
theorem w0g (b:z3a) (a p:Bs) (ha:a.length≤1000000∧p.length≤1000000):y0x b a p=some (bk b.subs_ a p):=by
 unfold y0x y3l bk
 rw [if_pos ⟨by omega,by omega⟩]
 cases lkG b.subs_ (z0u.mk a p) with
 | none=>rfl
 | some v=>rfl
def upS (st:Bs→Bs→z0o) (a p:Bs) (s:z0o):Bs→Bs→z0o:=fun a' p'=>if a'=a∧p'=p then s else st a' p'
theorem w8z (m:List (z0u×z0o)) (a p:Bs) (s:z0o):bk (ptG m (z0u.mk a p) s)=upS (bk m) a p s:=by
 funext a' p'
 unfold bk upS
 rw [x54]
 by_cases h:a'=a∧p'=p
 ·obtain ⟨rfl,rfl⟩:=h
  rw [if_pos rfl,if_pos ⟨rfl,rfl⟩]; rfl
 ·have h2:¬ z0u.mk a p=z0u.mk a' p':=fun e=>by
   injection e with e1 e2
   exact h ⟨e1.symm,e2.symm⟩
  rw [if_neg h2,if_neg h]
def runR (c:z0i):(Bs→Bs→z0o)→Nat→List z0f→List (Int×Bs×Bs)
 | _,_,[]=>[]
 | st,k,x::l=>if (fol c (st x.App x.Product) x).2=true then runR c (upS st x.App x.Product (fol c (st x.App x.Product) x).1) (k+1) l else ((k:Int),x.App,x.Product)::runR c st (k+1) l
def runS (c:z0i):(Bs→Bs→z0o)→List z0f→(Bs→Bs→z0o)
 | st,[]=>st
 | st,x::l=>if (fol c (st x.App x.Product) x).2=true then runS c (upS st x.App x.Product (fol c (st x.App x.Product) x).1) l else runS c st l
theorem w7v {st:Bs→Bs→z0o} {a p:Bs} {s:z0o} (h:∀ a p,SI (st a p)) (hs:SI s):∀ a' p',SI (upS st a p s a' p'):=fun a' p'=>by
 unfold upS
 split
 ·exact hs
 ·exact h a' p'
section
variable {c:z0i} {apps:List z0s} (hb:CB c) (hc:catF c=0)
include hb hc
end
def stR (c:z0i) (a p:Bs):z0o→Nat→List z0f→List Int
 | _,_,[]=>[]
 | s,k,x::l=>if x.App=a∧x.Product=p then (if (fol c s x).2=true then stR c a p (fol c s x).1 (k+1) l else (k:Int)::stR c a p s (k+1) l) else stR c a p s (k+1) l
def stS (c:z0i) (a p:Bs):z0o→List z0f→List z0o
 | _,[]=>[]
 | s,x::l=>if x.App=a∧x.Product=p then (if (fol c s x).2=true then (fol c s x).1::stS c a p (fol c s x).1 l else stS c a p s l) else stS c a p s l
section
variable {c:z0i} {apps:List z0s} (hb:CB c) (hc:catF c=0)
include hb hc
theorem y9o (a p:Bs):∀ (l:List z0f) (k:Nat) (out:List z0o) (s:z0o) (ref:List Int),(∀ x,x∈l→EOk c apps x)→SI s→out.length+l.length≤1000000→ref.length+l.length≤1000000 →
  forL (fun (k:Nat) (x:z0f) (s:(List z0o)×(List Int))=>z8a c a p k x s.1 s.2) (fun (s:(List z0o)×(List Int))=>z9y s.1 s.2) k l (out++[s],ref)=some (out++[s]++stS c a p s l,ref++stR c a p s k l)
 | [],k,out,s,ref,_,_,_,_=>by
  show z9y (out++[s]) ref=_
  unfold z9y
  simp [stS,stR]
 | x::l,k,out,s,ref,hx,hs,h1,h2=>by
  simp only [List.length_cons] at h1 h2
  have x1:=hx x (by simp)
  have e2:=w7c hb hc hs x1
  obtain ⟨f1,f2⟩:=w5w hs x1
  have hstep:z8a c a p k x (out++[s]) ref=if x.App=a∧x.Product=p then (if (fol c s x).2=true then some (.inl (out++[s]++[(fol c s x).1],ref)) else some (.inl (out++[s],ref++[(k:Int)]))) else some (.inl (out++[s],ref)):=by
   have e0:(decide (x.App≠a) || decide (x.Product≠p)) = !decide (x.App=a∧x.Product=p):=by
    by_cases q1:x.App=a <;> by_cases q2:x.Product=p <;> simp [q1,q2]
   unfold z8a z8b
   rw [e0]
   by_cases hp:x.App=a∧x.Product=p
   ·have e1:at? (out++[s]) (wr (((out++[s]).length:Int) - 1))=some s:=by
     simp only [List.length_append,List.length_cons,List.length_nil]
     rw [z6j (by omega)]
     have:((out.length+(0+1):Nat):Int) - 1=(out.length:Int):=by omega
     rw [this,x0z]
     simp
    have e3:(!decide (x.App=a∧x.Product=p))=false:=by rw [decide_eq_true hp]; rfl
    rw [e3,if_neg (by simp),e1,if_pos hp]
    simp only [Option.bind_some,e2]
    cases (fol c s x).2
    ·simp only [Bool.false_eq_true,if_false]
     rw [if_pos (by omega)]
    ·simp only [if_true]
     rw [if_pos (by simp; omega)]
   ·have e3:(!decide (x.App=a∧x.Product=p))=true:=by rw [decide_eq_false hp]; rfl
    rw [e3,if_pos rfl,if_neg hp]
  show (z8a c a p k x (out++[s]) ref).bind _=_
  rw [hstep]
  by_cases hp:x.App=a∧x.Product=p
  ·rw [if_pos hp]
   cases hf:(fol c s x).2
   ·simp only [Bool.false_eq_true,if_false,Option.bind_some,after]
    rw [y9o a p l (k+1) out s (ref++[(k:Int)]) (fun y hy=>hx y (by simp [hy])) hs (by omega) (by simp; omega)]
    simp [stS,stR,hp,hf]
   ·simp only [if_true,Option.bind_some,after]
    rw [y9o a p l (k+1) (out++[s]) (fol c s x).1 ref (fun y hy=>hx y (by simp [hy])) f1 (by simp; omega) (by omega)]
    simp [stS,stR,hp,hf]
  ·rw [if_neg hp]
   simp only [Option.bind_some,after]
   rw [y9o a p l (k+1) out s ref (fun y hy=>hx y (by simp [hy])) hs (by omega) (by omega)]
   simp only [stS,stR,if_neg hp]
theorem w08 (l:List z0f) (a p:Bs) (hx:∀ x,x∈l→EOk c apps x) (hl:l.length≤100000):y1y c l a p=some (y26::stS c a p y26 l,stR c a p y26 0 l):=by
 unfold y1y z9h
 simp only [Option.bind_some]
 rw [if_pos (by omega)]
 have:=y9o (apps:=apps) hb hc a p l 0 [] y26 [] hx w1b (by simp; omega) (by simp; omega)
 simp only [List.nil_append] at this
 exact this
end
end Go.Proofs.YthmmalklamiefaaGreatDoor
