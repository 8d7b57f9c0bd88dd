/- Plain: catalogs of plans: the program and the reference agree on faults, places and prices. -/
import Derived.Test.YthmmalklamiefaaGreatDoorVbZc
import Derived.Test.YthmmalklamiefaaGreatDoorRng
namespace Go.Proofs.YthmmalklamiefaaGreatDoor
set_option linter.unusedVariables false
set_option maxRecDepth 20000
section
variable {α:Type}
theorem y8i {l:List α} {k:Nat} (h:0 < k):at? l ((k:Int) - 1)=l[k - 1]?:=by
 unfold at?
 rw [if_pos (by omega)]
 congr 1
 omega
theorem x4z {body:Nat→α→Unit→Option (Unit ⊕ Int)} {fin:Unit→Option Int} {e:Nat→α→Int}:∀ (l:List α) (k:Nat),(∀ j x,k≤j→l[j - k]?=some x→body j x ()=if e j x≠0 then some (.inr (e j x)) else some (.inl ()))→forL body fin k l ()=if feI e k l≠0 then some (feI e k l) else fin ()
 | [],k,h=>by simp [forL,feI]
 | x::l,k,h=>by
  have h1:=h k x (Nat.le_refl _) (by simp)
  show (body k x ()).bind _=_
  rw [h1]
  by_cases hp:e k x≠0
  ·simp [feI,hp,after]
  ·simp only [feI,hp,if_false,Option.bind_some,after]
   refine x4z l (k+1) fun j y hj hy=>h j y (by omega) ?_
   obtain ⟨m,hm⟩:∃ m,j - k=m+1:=⟨j - k - 1,by omega⟩
   rw [hm,List.getElem?_cons_succ]
   have:j - (k+1)=m:=by omega
   rw [this] at hy; exact hy
theorem x1i {e:Nat→α→Int}:∀ (l:List α) (k:Nat),feI e k l=0→∀ j x,l[j]?=some x→e (k+j) x=0
 | [],k,_,j,x,hx=>by simp at hx
 | y::l,k,h,j,x,hx=>by
  simp only [feI] at h
  by_cases hp:e k y≠0
  ·rw [if_pos hp] at h; exact absurd h hp
  ·rw [if_neg hp] at h
   cases j with
   | zero=>simp at hx; subst hx; simpa using hp
   | succ j =>
    have:=x1i l (k+1) h j x (by simpa using hx)
    rw [show k+(j+1)=k+1+j by omega]; exact this
def chR (key:α→Bs) (g:α→Bool→Int):List α→Bs→Int
 | [],_=>0
 | x::l,last=>if g x (leB (key x) last)≠0 then g x (leB (key x) last) else chR key g l (key x)
theorem x47 {key:α→Bs} {g:α→Bool→Int} {body:Nat→α→Bs→Option (Bs ⊕ Int)} {fin:Bs→Option Int} {r:Option Int} (hf:∀ s,fin s=r):∀ (l:List α) (k:Nat) (last:Bs),(∀ j x s,x∈l→body j x s=if g x (leB (key x) s)≠0 then some (.inr (g x (leB (key x) s))) else some (.inl (key x)))→forL body fin k l last=if chR key g l last≠0 then some (chR key g l last) else r
 | [],k,last,h=>by simp [forL,chR,hf]
 | x::l,k,last,h=>by
  have h1:=h k x last (by simp)
  show (body k x last).bind _=_
  rw [h1]
  by_cases hp:g x (leB (key x) last)≠0
  ·simp [chR,hp,after]
  ·simp only [chR,hp,if_false,Option.bind_some,after]
   exact x47 hf l (k+1) (key x) fun j y s hy=>h j y s (List.mem_cons_of_mem _ hy)
def y6f (key:α→Bs) (xs:List α) (k:Nat) (x:α):Bool:=decide (0 < k) && match xs[k - 1]? with | some y=>leB (key x) (key y) | none=>false
theorem x5a {key:α→Bs} {g:α→Bool→Int} (hg:∀ x,leB (key x) []=false∨∀ a b,g x a=g x b) (xs:List α) {body:Nat→α→Unit→Option (Unit ⊕ Int)} {fin:Unit→Option Int} {r:Option Int} (hf:fin ()=r):∀ (l:List α) (k:Nat) (last:Bs),(k=0∧last=[]∨0 < k∧∃ y,xs[k - 1]?=some y∧last=key y)→(∀ j,l[j]?=xs[k+j]?)→(∀ j x,xs[j]?=some x→body j x ()=if g x (y6f key xs j x)≠0 then some (.inr (g x (y6f key xs j x))) else some (.inl ()))→forL body fin k l ()=if chR key g l last≠0 then some (chR key g l last) else r
 | [],k,last,_,_,h=>by simp [forL,chR,hf]
 | x::l,k,last,hk,hl,h=>by
  have hx:xs[k]?=some x:=by have:=hl 0; simpa using this.symm
  have h1:=h k x hx
  have e:g x (y6f key xs k x)=g x (leB (key x) last):=by
   rcases hk with ⟨rfl,rfl⟩ | ⟨h0,y,hy,rfl⟩
   ·have e2:y6f key xs 0 x=false:=by simp [y6f]
    rw [e2]
    rcases hg x with h3 | h3
    ·rw [h3]
    ·exact h3 _ _
   ·have e2:y6f key xs k x=leB (key x) (key y):=by simp [y6f,h0,hy]
    rw [e2]
  rw [e] at h1
  show (body k x ()).bind _=_
  rw [h1]
  by_cases hp:g x (leB (key x) last)≠0
  ·simp [chR,hp,after]
  ·simp only [chR,hp,if_false,Option.bind_some,after]
   refine x5a hg xs hf l (k+1) (key x) (.inr ⟨by omega,x,by simpa using hx,rfl⟩) (fun j => ?_) h
   have:=hl (j+1)
   rw [List.getElem?_cons_succ] at this
   rw [this]; congr 1; omega
theorem x1j {key:α→Bs} {g:α→Bool→Int} (hg:∀ x,g x true≠0):∀ (l:List α) (last:Bs),chR key g l last=0→(x0r key l∧∀ x,x∈l→g x false=0)∧∀ x,x∈l→cmpL last (key x) < 0
 | [],last,_=>⟨⟨List.Pairwise.nil,fun x h=>by cases h⟩,fun x h=>by cases h⟩
 | x::l,last,h=>by
  simp only [chR] at h
  by_cases hc:g x (leB (key x) last)≠0
  ·rw [if_pos hc] at h; exact absurd h hc
  ·rw [if_neg hc] at h
   have hl:leB (key x) last=false:=by
    cases hq:leB (key x) last
    ·rfl
    ·rw [hq] at hc; exact absurd (hg x) hc
   rw [hl] at hc
   have h1:=w63 _ _ hl
   obtain ⟨⟨h2,h4⟩,h3⟩:=x1j hg l (key x) h
   refine ⟨⟨List.Pairwise.cons h3 h2,fun y hy => ?_⟩,fun y hy => ?_⟩
   ·rcases List.mem_cons.1 hy with rfl | hy
    ·simpa using hc
    ·exact h4 y hy
   ·rcases List.mem_cons.1 hy with rfl | hy
    ·exact h1
    ·exact y7i _ _ _ h1 (h3 y hy)
end

def x2g (l:List z02) (k:Nat) (x:z02):Bool:=decide (0 < k) && match l[k - 1]? with | some y=>decide (x.From≤y.From) | none=>false
def t1 (l:List z02) (k:Nat) (x:z02):Int:=if (outP x.From 1 1000000000000 || outP x.Cents 0 1000000)=true then 1 else if x2g l k x=true then 7 else 0
def t0 (l:List z02):Bool:=match l[0]? with | some y=>decide (y.From≠1) | none=>false
def tsF (l:List z02):Int:=if 20 < l.length then 2 else if feI (t1 l) 0 l≠0 then feI (t1 l) 0 l else if t0 l=true then 3 else 0
theorem w8d (l:List z02) (k:Nat) (x:z02) (hx:l[k]?=some x) (v:Bool):z5s l k x v=if v=true then some (.inr 1) else if x2g l k x=true then some (.inr 7) else some (.inl ()):=by
 unfold z5s z8d
 cases v
 ·simp only [Bool.false_eq_true,if_false]
  by_cases h0:0 < k
  ·obtain ⟨y,hy⟩:∃ y,l[k - 1]?=some y:=⟨_,List.getElem?_eq_getElem (by have:=z9l hx; omega)⟩
   have e1:at? l ((k:Int) - 1)=some y:=by rw [y8i h0]; exact hy
   have e2:decide (0 < (k:Int))=true:=by simpa using h0
   have e3:x2g l k x=decide (x.From≤y.From):=by simp [x2g,h0,hy]
   simp only [e2,if_true,e1,Option.bind_some,e3]
  ·have e2:decide (0 < (k:Int))=false:=by simpa using h0
   have e3:x2g l k x=false:=by simp [x2g,h0]
   rw [e2,e3]; rfl
 ·simp
theorem w6f (p:z0p) (k:Nat) (x:z02) (v:Bool):z7i p k x v=z5s p.Tiers k x v:=rfl
theorem w9c (l:List z02) (k:Nat) (x:z02) (hx:l[k]?=some x):z94 l k x=if t1 l k x≠0 then some (.inr (t1 l k x)) else some (.inl ()):=by
 unfold z94
 simp only [x5x,Option.bind_some,w8d l k x hx,t1]
 rcases Bool.eq_false_or_eq_true (outP x.From 1 1000000000000) with h1 | h1 <;> rcases Bool.eq_false_or_eq_true (outP x.Cents 0 1000000) with h2 | h2 <;> rcases Bool.eq_false_or_eq_true (x2g l k x) with h3 | h3 <;> simp [h1,h2,h3]
theorem w9b (p:z0p) (k:Nat) (x:z02) (hx:p.Tiers[k]?=some x):z9n p k x=if t1 p.Tiers k x≠0 then some (.inr (t1 p.Tiers k x)) else some (.inl ()):=by
 unfold z9n
 simp only [x4w,Option.bind_some,w6f,w8d p.Tiers k x hx,t1]
 rcases Bool.eq_false_or_eq_true (outP x.From 1 1000000000000) with h1 | h1 <;> rcases Bool.eq_false_or_eq_true (outP x.Cents 0 1000000) with h2 | h2 <;> rcases Bool.eq_false_or_eq_true (x2g p.Tiers k x) with h3 | h3 <;> simp [h1,h2,h3]
theorem w0u (l:List z02) (h:l.length≤1000000000):y0v l=some (tsF l):=by
 unfold y0v tsF
 by_cases h1:20 < l.length
 ·rw [if_pos (by simp; omega),if_pos h1]
 ·rw [if_neg (by simp; omega),if_neg h1,if_pos h,x4z (e:=t1 l) l 0 fun j x _ hx=>w9c l j x (by simpa using hx)]
  by_cases h2:feI (t1 l) 0 l≠0
  ·rw [if_pos h2,if_pos h2]
  ·rw [if_neg h2,if_neg h2]
   unfold y1n z8e t0
   cases hl:l with
   | nil=>rfl
   | cons x l'=>simp; split <;> rfl
def hasP (c:z0i) (key:Bs):Bool:=c.Products.any fun x=>decide (x.Key=key)
def plF (c:z0i) (p:z0p):Int:=if hasP c p.Product=false then 8 else if (outP p.Base 0 1000000000000 || outP p.Free 0 1000000000000)=true then 1 else if tsF p.Tiers≠0 then tsF p.Tiers else if (outP p.Limit (-1) 1000000000000 || outP p.Trial 0 132)=true then 1 else 0
structure CB (c:z0i):Prop where
 np:c.Products.length≤100000
 kp:∀ x,x∈c.Products→x.Key.length≤1000000∧Sh x.Scopes
 nl:c.Plans.length≤100000
 kl:∀ x,x∈c.Plans→x.Key.length≤1000000∧x.Tiers.length≤1000000
theorem y6s (c:z0i) (key:Bs) (hl:c.Products.length≤100000) (hr:x0r z0r.Key c.Products):Ok (z62 c key) fun r=>r.2=hasP c key:=by
 unfold z62
 have h:=x7n z0r.Key c.Products key (p:=fun (a0:z0r) (a1:Bs)=>z8g a0 a1) (by omega) (fun x _=>rfl) hr
 exact z1c (o:=z2i c.Products key (fun (a0:z0r) (a1:Bs)=>z8g a0 a1)) h fun r hr=>z13 hr.1
theorem y9u (c:z0i) (key:Bs) (hl:c.Products.length≤100000):z5t c key=some (fdx (fun x:z0r=>decide (x.Key=key)) 0 c.Products):=by
 unfold z5t
 have h:z3f c.Products (fun (a0:z0r)=>z63 a0 key)=some (fdx (fun x:z0r=>decide (x.Key=key)) 0 c.Products):=
  x4y c.Products (p:=fun (a0:z0r)=>z63 a0 key) (fun x=>decide (x.Key=key)) (by omega) fun x _=>rfl
 rw [h]; rfl
theorem y9v (c:z0i) (key:Bs) (hl:c.Plans.length≤100000):z3v c key=some (fdx (fun x:z0p=>decide (x.Key=key)) 0 c.Plans):=by
 unfold z3v
 have h:z4g c.Plans (fun (a0:z0p)=>z8w a0 key)=some (fdx (fun x:z0p=>decide (x.Key=key)) 0 c.Plans):=
  x4y c.Plans (p:=fun (a0:z0p)=>z8w a0 key) (fun x=>decide (x.Key=key)) (by omega) fun x _=>rfl
 rw [h]; rfl
theorem w8h (c:z0i) (p:z0p) (hl:c.Products.length≤100000) (hr:x0r z0r.Key c.Products) (ht:p.Tiers.length≤1000000) (late:Bool):z7b c p late=some (if late=true then 7 else plF c p):=by
 unfold z7b
 cases late
 ·obtain ⟨r,h1,h2⟩:=y6s c p.Product hl hr
  simp only [Bool.false_eq_true,if_false,h1,Option.bind_some,h2,plF,x5x,z8s,z8r,w0u p.Tiers (by omega)]
  cases hasP c p.Product
  ·rfl
  ·cases outP p.Base 0 1000000000000 <;> cases outP p.Free 0 1000000000000 <;> by_cases h3:tsF p.Tiers=0 <;> cases outP p.Limit (-1) 1000000000000 <;> cases outP p.Trial 0 132 <;> simp [h3]
 ·simp
theorem w8g (c:z0i) (p:z0p) (hl:c.Products.length≤100000) (ht:p.Tiers.length≤1000000):z97 c p=some (plF c p):=by
 unfold z97
 rw [y9u c _ hl]
 have hT:z4z p false=some (if tsF p.Tiers≠0 then tsF p.Tiers else if (outP p.Limit (-1) 1000000000000 || outP p.Trial 0 132)=true then 1 else 0):=by
  unfold z4z tsF
  simp only [Bool.false_eq_true,if_false]
  by_cases h1:20 < p.Tiers.length
  ·rw [if_pos (by simp; omega),if_pos h1]; rfl
  ·rw [if_neg (by simp; omega),if_neg h1,if_pos (by omega),x4z (e:=t1 p.Tiers) p.Tiers 0 fun j x _ hx=>w9b p j x (by simpa using hx)]
   by_cases h2:feI (t1 p.Tiers) 0 p.Tiers≠0
   ·rw [if_pos h2,if_pos h2,if_pos h2]
   ·rw [if_neg h2,if_neg h2]
    have e1:z9p p=z6e p (t0 p.Tiers):=by
     unfold z9p t0
     cases hq:p.Tiers with
     | nil=>rfl
     | cons x l'=>rw [if_pos (by simp)]; rfl
    rw [e1]
    unfold z6e z7j
    simp only [x4w,Option.bind_some]
    cases t0 p.Tiers <;> cases outP p.Limit (-1) 1000000000000 <;> cases outP p.Trial 0 132 <;> rfl
 simp only [Option.bind_some,y64,x4w,plF]
 show (if (!hasP c p.Product)=true then _ else _)=_
 cases hasP c p.Product
 ·rfl
 ·cases outP p.Base 0 1000000000000 <;> cases outP p.Free 0 1000000000000 <;> simp only [Bool.not_false,Bool.not_true,Bool.false_eq_true,if_false,if_true,Bool.or_false,Bool.or_true,reduceCtorEq,hT] <;> first | rfl | simp [z4z]
def gP (p:z0r) (late:Bool):Int:=if keyP p.Key=false then 5 else if late=true then 7 else scF p.Scopes
def gL (c:z0i) (p:z0p) (late:Bool):Int:=if keyP p.Key=false then 5 else if late=true then 7 else plF c p
def pdF (l:List z0r):Int:=if 100 < l.length then 2 else chR z0r.Key gP l []
def catF (c:z0i):Int:=if pdF c.Products≠0 then pdF c.Products else if 100 < c.Plans.length then 2 else chR z0p.Key (gL c) c.Plans []
theorem w68 (x:z0r):gP x true≠0:=by unfold gP; split <;> simp
theorem w69 (c:z0i) (x:z0p):gL c x true≠0:=by unfold gL; split <;> simp
theorem w4p (x:z0r):leB x.Key []=false∨∀ a b,gP x a=gP x b:=by
 cases hk:keyP x.Key
 ·exact .inr fun a b=>by simp [gP,hk]
 ·exact .inl (x7k hk)
theorem w4q (c:z0i) (x:z0p):leB x.Key []=false∨∀ a b,gL c x a=gL c x b:=by
 cases hk:keyP x.Key
 ·exact .inr fun a b=>by simp [gL,hk]
 ·exact .inl (x7k hk)
theorem x8k {l:List z0r} (h:pdF l=0):x0r z0r.Key l:=by
 unfold pdF at h
 split at h
 ·omega
 ·exact (x1j w68 l [] h).1.1
theorem x2n (c : z0i) (hb : CB c) : z6b c = some (catF c) := by
  have h1 : z8l c.Products = some (pdF c.Products) := by
    have hn := hb.np
    unfold z8l pdF
    by_cases h1 : 100 < c.Products.length
    · rw [if_pos (by simp; omega), if_pos h1]
    · rw [if_neg (by simp; omega), if_neg h1, if_pos (by omega)]
      rw [x5a (key := z0r.Key) (g := gP) w4p c.Products (r := some 0) rfl c.Products 0 [] (.inl ⟨rfl, rfl⟩) (fun j => by simp) fun j x hx => ?_]
      · split
        · rfl
        · next h => have : chR z0r.Key gP c.Products [] = 0 := by simpa using h
                    rw [this]
      · obtain ⟨k1, k2⟩ := hb.kp x (List.mem_of_getElem? hx)
        have hJ : ∀ v, z45 x v = if (if v = true then (7 : Int) else scF x.Scopes) ≠ 0 then some (.inr (if v = true then (7 : Int) else scF x.Scopes)) else some (.inl ()) := by
          intro v
          unfold z45
          cases v
          · simp only [Bool.false_eq_true, if_false, w7j _ k2, Option.bind_some]
            by_cases hq : scF x.Scopes = 0 <;> simp [hq]
          · simp
        unfold y0c
        simp only [y93 _ (show x.Key.length ≤ 1000000000 by omega), Option.bind_some, hJ]
        unfold gP
        cases hk : keyP x.Key
        · simp
        · simp only [Bool.not_true, Bool.false_eq_true, if_false, reduceCtorEq]
          by_cases h0 : 0 < j
          · obtain ⟨y, hy⟩ : ∃ y, c.Products[j - 1]? = some y := ⟨_, List.getElem?_eq_getElem (by have := z9l hx; omega)⟩
            have e1 : at? c.Products ((j : Int) - 1) = some y := by rw [y8i h0]; exact hy
            have e2 : decide (0 < (j : Int)) = true := by simpa using h0
            have e3 : y6f z0r.Key c.Products j x = leB x.Key y.Key := by simp [y6f, h0, hy]
            simp only [e2, if_true, e1, Option.bind_some, e3]
            rfl
          · have e2 : decide (0 < (j : Int)) = false := by simpa using h0
            have e3 : y6f z0r.Key c.Products j x = false := by simp [y6f, h0]
            rw [e2, e3]; rfl
  unfold z6b catF
  rw [h1]
  simp only [Option.bind_some]
  by_cases h2 : pdF c.Products ≠ 0
  · rw [if_pos (by simpa using h2), if_pos h2]
  · rw [if_neg (by simpa using h2), if_neg h2]
    have hr := x8k (by simpa using h2 : pdF c.Products = 0)
    have hn := hb.nl
    by_cases h3 : 100 < c.Plans.length
    · rw [if_pos (by simp; omega), if_pos h3]
    · rw [if_neg (by simp; omega), if_neg h3, if_pos (by omega)]
      rw [x5a (key := z0p.Key) (g := gL c) (w4q c) c.Plans (r := some 0) rfl c.Plans 0 [] (.inl ⟨rfl, rfl⟩) (fun j => by simp) fun j x hx => ?_]
      · split
        · rfl
        · next h => have : chR z0p.Key (gL c) c.Plans [] = 0 := by simpa using h
                    rw [this]
      · obtain ⟨k1, k2⟩ := hb.kl x (List.mem_of_getElem? hx)
        have e0 : y09 c (j : Int) = some (gL c x (y6f z0p.Key c.Plans j x)) := by
          unfold y09
          rw [x0z, hx]
          simp only [y93 _ (show x.Key.length ≤ 1000000000 by omega), Option.bind_some, w8h c x hb.np hr k2]
          unfold gL
          cases hk : keyP x.Key
          · simp
          · simp only [Bool.not_true, Bool.false_eq_true, if_false, reduceCtorEq]
            by_cases h0 : 0 < j
            · obtain ⟨y, hy⟩ : ∃ y, c.Plans[j - 1]? = some y := ⟨_, List.getElem?_eq_getElem (by have := z9l hx; omega)⟩
              have e1 : at? c.Plans (wr ((j : Int) - 1)) = some y := by
                rw [z6j (by have := z9l hx; omega), y8i h0]; exact hy
              have e2 : decide (0 < (j : Int)) = true := by simpa using h0
              have e3 : y6f z0p.Key c.Plans j x = leB x.Key y.Key := by simp [y6f, h0, hy]
              simp only [e2, if_true, e1, Option.bind_some, e3]
              rfl
            · have e2 : decide (0 < (j : Int)) = false := by simpa using h0
              have e3 : y6f z0p.Key c.Plans j x = false := by simp [y6f, h0]
              rw [e2, e3]; rfl
        unfold y03
        rw [e0]
        simp only [Option.bind_some]
        by_cases hq : gL c x (y6f z0p.Key c.Plans j x) = 0 <;> simp [hq]
theorem y9j (c : z0i) (hb : CB c) : z6s c = some (catF c) := by
  have hn := hb.np
  have hm := hb.nl
  unfold z6s catF pdF
  by_cases h1 : 100 < c.Products.length
  · rw [if_pos (by simp; omega), if_pos h1, if_pos (by decide)]
  · rw [if_neg (by simp; omega), if_neg h1, if_pos (by omega)]
    rw [x47 (key := z0r.Key) (g := gP) (fin := fun s => z56 c s) (r := z56 c []) (fun s => rfl) c.Products 0 [] fun j x s hx => ?_]
    · by_cases h2 : chR z0r.Key gP c.Products [] ≠ 0
      · rw [if_pos h2, if_pos h2]
      · rw [if_neg h2, if_neg h2]
        unfold z56
        by_cases h3 : 100 < c.Plans.length
        · rw [if_pos (by simp; omega), if_pos h3]
        · rw [if_neg (by simp; omega), if_neg h3, if_pos (by omega)]
          rw [x47 (key := z0p.Key) (g := gL c) (fin := fun s => z91 s) (r := some 0) (fun s => rfl) c.Plans 0 [] fun j x s hx => ?_]
          · split
            · rfl
            · next h => have : chR z0p.Key (gL c) c.Plans [] = 0 := by simpa using h
                        rw [this]
          · obtain ⟨k1, k2⟩ := hb.kl x hx
            unfold z9z
            simp only [x56 _ (show x.Key.length ≤ 1000000000 by omega), w8g c x hn k2, Option.bind_some]
            show (if (!keyP x.Key) = true then _ else if leB x.Key s = true then _ else _) = _
            unfold gL
            cases keyP x.Key <;> cases leB x.Key s <;> by_cases hq : plF c x = 0 <;> simp [hq]
    · obtain ⟨k1, k2⟩ := hb.kp x hx
      unfold z90
      simp only [x56 _ (show x.Key.length ≤ 1000000000 by omega), w2k _ k2, Option.bind_some]
      show (if (!keyP x.Key) = true then _ else if leB x.Key s = true then _ else _) = _
      unfold gP
      cases keyP x.Key <;> cases leB x.Key s <;> by_cases hq : scF x.Scopes = 0 <;> simp [hq]
end Go.Proofs.YthmmalklamiefaaGreatDoor
