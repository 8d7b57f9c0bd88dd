/- Plain: the stream's applications and events. -/
import Derived.Test.YtbndlmnjeofkdacGreatDoorVbZt
import Derived.Test.YtbndlmnjeofkdacGreatDoorRng
namespace Go.Proofs.YtbndlmnjeofkdacGreatDoor
set_option linter.unusedVariables false
set_option maxRecDepth 20000
section
variable {α:Type}
theorem z2p {l:List α} {k:Nat} (h:0 < k):at? l ((k:Int) - 1)=l[k - 1]?:=by
 unfold at?
 rw [if_pos (by omega)]
 congr 1
 omega
theorem x1u {body:Nat→α→Unit→Option (Unit ⊕ Int)} {fin:Unit→Option Int} {e:Nat→α→Int}:∀ (l:List α) (k:Nat),(∀ j x,k≤j→l[j - k]?=some x→body j x ()=if e j x≠0 then some (.inr (e j x)) else some (.inl ()))→forL body fin k l ()=if feI e k l≠0 then some (feI e k l) else fin ()
 | [],k,h=>by simp [forL,feI]
 | x::l,k,h=>by
  have h1:=h k x (Nat.le_refl _) (by simp)
  show (body k x ()).bind _=_
  rw [h1]
  by_cases hp:e k x≠0
  ·simp [feI,hp,after]
  ·simp only [feI,hp,if_false,Option.bind_some,after]
   refine x1u l (k+1) fun j y hj hy=>h j y (by omega) ?_
   obtain ⟨m,hm⟩:∃ m,j - k=m+1:=⟨j - k - 1,by omega⟩
   rw [hm,List.getElem?_cons_succ]
   have:j - (k+1)=m:=by omega
   rw [this] at hy; exact hy
theorem x1x {e:Nat→α→Int}:∀ (l:List α) (k:Nat),feI e k l=0→∀ j x,l[j]?=some x→e (k+j) x=0
 | [],k,_,j,x,hx=>by simp at hx
 | y::l,k,h,j,x,hx=>by
  simp only [feI] at h
  by_cases hp:e k y≠0
  ·rw [if_pos hp] at h; exact absurd h hp
  ·rw [if_neg hp] at h
   cases j with
   | zero=>simp at hx; subst hx; simpa using hp
   | succ j =>
    have:=x1x l (k+1) h j x (by simpa using hx)
    rw [show k+(j+1)=k+1+j by omega]; exact this
def chR (key:α→Bs) (g:α→Bool→Int):List α→Bs→Int
 | [],_=>0
 | x::l,last=>if g x (leB (key x) last)≠0 then g x (leB (key x) last) else chR key g l (key x)
theorem y0x {key:α→Bs} {g:α→Bool→Int} {body:Nat→α→Bs→Option (Bs ⊕ Int)} {fin:Bs→Option Int} {r:Option Int} (hf:∀ s,fin s=r):∀ (l:List α) (k:Nat) (last:Bs),(∀ j x s,x∈l→body j x s=if g x (leB (key x) s)≠0 then some (.inr (g x (leB (key x) s))) else some (.inl (key x)))→forL body fin k l last=if chR key g l last≠0 then some (chR key g l last) else r
 | [],k,last,h=>by simp [forL,chR,hf]
 | x::l,k,last,h=>by
  have h1:=h k x last (by simp)
  show (body k x last).bind _=_
  rw [h1]
  by_cases hp:g x (leB (key x) last)≠0
  ·simp [chR,hp,after]
  ·simp only [chR,hp,if_false,Option.bind_some,after]
   exact y0x hf l (k+1) (key x) fun j y s hy=>h j y s (List.mem_cons_of_mem _ hy)
def je (key:α→Bs) (xs:List α) (k:Nat) (x:α):Bool:=decide (0 < k) && match xs[k - 1]? with | some y=>leB (key x) (key y) | none=>false
theorem y0y {key:α→Bs} {g:α→Bool→Int} (hg:∀ x,leB (key x) []=false∨∀ a b,g x a=g x b) (xs:List α) {body:Nat→α→Unit→Option (Unit ⊕ Int)} {fin:Unit→Option Int} {r:Option Int} (hf:fin ()=r):∀ (l:List α) (k:Nat) (last:Bs),(k=0∧last=[]∨0 < k∧∃ y,xs[k - 1]?=some y∧last=key y)→(∀ j,l[j]?=xs[k+j]?)→(∀ j x,xs[j]?=some x→body j x ()=if g x (je key xs j x)≠0 then some (.inr (g x (je key xs j x))) else some (.inl ()))→forL body fin k l ()=if chR key g l last≠0 then some (chR key g l last) else r
 | [],k,last,_,_,h=>by simp [forL,chR,hf]
 | x::l,k,last,hk,hl,h=>by
  have hx:xs[k]?=some x:=by have:=hl 0; simpa using this.symm
  have h1:=h k x hx
  have e:g x (je key xs k x)=g x (leB (key x) last):=by
   rcases hk with ⟨rfl,rfl⟩ | ⟨h0,y,hy,rfl⟩
   ·have e2:je key xs 0 x=false:=by simp [je]
    rw [e2]
    rcases hg x with h3 | h3
    ·rw [h3]
    ·exact h3 _ _
   ·have e2:je key xs k x=leB (key x) (key y):=by simp [je,h0,hy]
    rw [e2]
  rw [e] at h1
  show (body k x ()).bind _=_
  rw [h1]
  by_cases hp:g x (leB (key x) last)≠0
  ·simp [chR,hp,after]
  ·simp only [chR,hp,if_false,Option.bind_some,after]
   refine y0y hg xs hf l (k+1) (key x) (.inr ⟨by omega,x,by simpa using hx,rfl⟩) (fun j => ?_) h
   have:=hl (j+1)
   rw [List.getElem?_cons_succ] at this
   rw [this]; congr 1; omega
theorem y0w {key:α→Bs} {g:α→Bool→Int} (hg:∀ x,g x true≠0):∀ (l:List α) (last:Bs),chR key g l last=0→(xm key l∧∀ x,x∈l→g x false=0)∧∀ x,x∈l→cmpL last (key x) < 0
 | [],last,_=>⟨⟨List.Pairwise.nil,fun x h=>by cases h⟩,fun x h=>by cases h⟩
 | x::l,last,h=>by
  simp only [chR] at h
  by_cases hc:g x (leB (key x) last)≠0
  ·rw [if_pos hc] at h; exact absurd h hc
  ·rw [if_neg hc] at h
   have hl:leB (key x) last=false:=by
    cases hq:leB (key x) last
    ·rfl
    ·rw [hq] at hc; exact absurd (hg x) hc
   rw [hl] at hc
   have h1:=w7e _ _ hl
   obtain ⟨⟨h2,h4⟩,h3⟩:=y0w hg l (key x) h
   refine ⟨⟨List.Pairwise.cons h3 h2,fun y hy => ?_⟩,fun y hy => ?_⟩
   ·rcases List.mem_cons.1 hy with rfl | hy
    ·simpa using hc
    ·exact h4 y hy
   ·rcases List.mem_cons.1 hy with rfl | hy
    ·exact h1
    ·exact y50 _ _ _ h1 (h3 y hy)
end

def xh (l:List qw) (k:Nat) (x:qw):Bool:=decide (0 < k) && match l[k - 1]? with | some y=>decide (x.From≤y.From) | none=>false
def t1 (l:List qw) (k:Nat) (x:qw):Int:=if (outP x.From 1 1000000000000 || outP x.Cents 0 1000000)=true then 1 else if xh l k x=true then 7 else 0
def t0 (l:List qw):Bool:=match l[0]? with | some y=>decide (y.From≠1) | none=>false
def tsF (l:List qw):Int:=if 20 < l.length then 2 else if feI (t1 l) 0 l≠0 then feI (t1 l) 0 l else if t0 l=true then 3 else 0
theorem x5h (l:List qw) (k:Nat) (x:qw) (hx:l[k]?=some x) (v:Bool):Wi l k x v=if v=true then some (.inr 1) else if xh l k x=true then some (.inr 7) else some (.inl ()):=by
 unfold Wi z3j
 cases v
 ·simp only [Bool.false_eq_true,if_false]
  by_cases h0:0 < k
  ·obtain ⟨y,hy⟩:∃ y,l[k - 1]?=some y:=⟨_,List.getElem?_eq_getElem (by have:=jj hx; omega)⟩
   have e1:at? l ((k:Int) - 1)=some y:=by rw [z2p h0]; exact hy
   have e2:decide (0 < (k:Int))=true:=by simpa using h0
   have e3:xh l k x=decide (x.From≤y.From):=by simp [xh,h0,hy]
   simp only [e2,if_true,e1,Option.bind_some,e3]
  ·have e2:decide (0 < (k:Int))=false:=by simpa using h0
   have e3:xh l k x=false:=by simp [xh,h0]
   rw [e2,e3]; rfl
 ·simp
theorem w25 (p:yj) (k:Nat) (x:qw) (v:Bool):z5o p k x v=Wi p.Tiers k x v:=rfl
theorem w24 (l:List qw) (k:Nat) (x:qw) (hx:l[k]?=some x):z7t l k x=if t1 l k x≠0 then some (.inr (t1 l k x)) else some (.inl ()):=by
 unfold z7t
 simp only [Wj,Option.bind_some,x5h l k x hx,t1]
 rcases Bool.eq_false_or_eq_true (outP x.From 1 1000000000000) with h1 | h1 <;> rcases Bool.eq_false_or_eq_true (outP x.Cents 0 1000000) with h2 | h2 <;> rcases Bool.eq_false_or_eq_true (xh l k x) with h3 | h3 <;> simp [h1,h2,h3]
theorem w23 (p:yj) (k:Nat) (x:qw) (hx:p.Tiers[k]?=some x):y0m p k x=if t1 p.Tiers k x≠0 then some (.inr (t1 p.Tiers k x)) else some (.inl ()):=by
 unfold y0m
 simp only [z0a,Option.bind_some,w25,x5h p.Tiers k x hx,t1]
 rcases Bool.eq_false_or_eq_true (outP x.From 1 1000000000000) with h1 | h1 <;> rcases Bool.eq_false_or_eq_true (outP x.Cents 0 1000000) with h2 | h2 <;> rcases Bool.eq_false_or_eq_true (xh p.Tiers k x) with h3 | h3 <;> simp [h1,h2,h3]
theorem w2q (l:List qw) (h:l.length≤1000000000):z8o l=some (tsF l):=by
 unfold z8o tsF
 by_cases h1:20 < l.length
 ·rw [if_pos (by simp; omega),if_pos h1]
 ·rw [if_neg (by simp; omega),if_neg h1,if_pos h,x1u (e:=t1 l) l 0 fun j x _ hx=>w24 l j x (by simpa using hx)]
  by_cases h2:feI (t1 l) 0 l≠0
  ·rw [if_pos h2,if_pos h2]
  ·rw [if_neg h2,if_neg h2]
   unfold y27 z3k t0
   cases hl:l with
   | nil=>rfl
   | cons x l'=>simp; split <;> rfl
def hasP (c:yh) (key:Bs):Bool:=c.Products.any fun x=>decide (x.Key=key)
def plF (c:yh) (p:yj):Int:=if hasP c p.Product=false then 8 else if (outP p.Base 0 1000000000000 || outP p.Free 0 1000000000000)=true then 1 else if tsF p.Tiers≠0 then tsF p.Tiers else if (outP p.Limit (-1) 1000000000000 || outP p.Trial 0 132)=true then 1 else 0
structure CB (c:yh):Prop where
 np:c.Products.length≤100000
 kp:∀ x,x∈c.Products→x.Key.length≤1000000∧Sh x.Scopes
 nl:c.Plans.length≤100000
 kl:∀ x,x∈c.Plans→x.Key.length≤1000000∧x.Tiers.length≤1000000
theorem y83 (c:yh) (key:Bs) (hl:c.Products.length≤100000) (hr:xm yq.Key c.Products):Ok (z1s c key) fun r=>r.2=hasP c key:=by
 unfold z1s
 have h:=x1t yq.Key c.Products key (p:=fun (a0:yq) (a1:Bs)=>z4m a0 a1) (by omega) (fun x _=>rfl) hr
 exact qf (o:=y37 c.Products key (fun (a0:yq) (a1:Bs)=>z4m a0 a1)) h fun r hr=>qa hr.1
theorem x6l (c:yh) (key:Bs) (hl:c.Products.length≤100000):z4z c key=some (fdx (fun x:yq=>decide (x.Key=key)) 0 c.Products):=by
 unfold z4z
 have h:y32 c.Products (fun (a0:yq)=>z4y a0 key)=some (fdx (fun x:yq=>decide (x.Key=key)) 0 c.Products):=
  z50 c.Products (p:=fun (a0:yq)=>z4y a0 key) (fun x=>decide (x.Key=key)) (by omega) fun x _=>rfl
 rw [h]; rfl
theorem x6n (c:yh) (key:Bs) (hl:c.Plans.length≤100000):Ye c key=some (fdx (fun x:yj=>decide (x.Key=key)) 0 c.Plans):=by
 unfold Ye
 have h:y33 c.Plans (fun (a0:yj)=>z40 a0 key)=some (fdx (fun x:yj=>decide (x.Key=key)) 0 c.Plans):=
  z50 c.Plans (p:=fun (a0:yj)=>z40 a0 key) (fun x=>decide (x.Key=key)) (by omega) fun x _=>rfl
 rw [h]; rfl
theorem w6e (c:yh) (p:yj) (hl:c.Products.length≤100000) (hr:xm yq.Key c.Products) (ht:p.Tiers.length≤1000000) (late:Bool):z03 c p late=some (if late=true then 7 else plF c p):=by
 unfold z03
 cases late
 ·obtain ⟨r,h1,h2⟩:=y83 c p.Product hl hr
  simp only [Bool.false_eq_true,if_false,h1,Option.bind_some,h2,plF,Wj,z3m,z3l,w2q p.Tiers (by omega)]
  cases hasP c p.Product
  ·rfl
  ·cases outP p.Base 0 1000000000000 <;> cases outP p.Free 0 1000000000000 <;> by_cases h3:tsF p.Tiers=0 <;> cases outP p.Limit (-1) 1000000000000 <;> cases outP p.Trial 0 132 <;> simp [h3]
 ·simp
theorem w6d (c:yh) (p:yj) (hl:c.Products.length≤100000) (ht:p.Tiers.length≤1000000):z9e c p=some (plF c p):=by
 unfold z9e
 rw [x6l c _ hl]
 have hT:z0c p false=some (if tsF p.Tiers≠0 then tsF p.Tiers else if (outP p.Limit (-1) 1000000000000 || outP p.Trial 0 132)=true then 1 else 0):=by
  unfold z0c tsF
  simp only [Bool.false_eq_true,if_false]
  by_cases h1:20 < p.Tiers.length
  ·rw [if_pos (by simp; omega),if_pos h1]; rfl
  ·rw [if_neg (by simp; omega),if_neg h1,if_pos (by omega),x1u (e:=t1 p.Tiers) p.Tiers 0 fun j x _ hx=>w23 p j x (by simpa using hx)]
   by_cases h2:feI (t1 p.Tiers) 0 p.Tiers≠0
   ·rw [if_pos h2,if_pos h2,if_pos h2]
   ·rw [if_neg h2,if_neg h2]
    have e1:y0o p=z2d p (t0 p.Tiers):=by
     unfold y0o t0
     cases hq:p.Tiers with
     | nil=>rfl
     | cons x l'=>rw [if_pos (by simp)]; rfl
    rw [e1]
    unfold z2d z5p
    simp only [z0a,Option.bind_some]
    cases t0 p.Tiers <;> cases outP p.Limit (-1) 1000000000000 <;> cases outP p.Trial 0 132 <;> rfl
 simp only [Option.bind_some,z52,z0a,plF]
 show (if (!hasP c p.Product)=true then _ else _)=_
 cases hasP c p.Product
 ·rfl
 ·cases outP p.Base 0 1000000000000 <;> cases outP p.Free 0 1000000000000 <;> simp only [Bool.not_false,Bool.not_true,Bool.false_eq_true,if_false,if_true,Bool.or_false,Bool.or_true,reduceCtorEq,hT] <;> first | rfl | simp [z0c]
def gP (p:yq) (late:Bool):Int:=if keyP p.Key=false then 5 else if late=true then 7 else scF p.Scopes
def gL (c:yh) (p:yj) (late:Bool):Int:=if keyP p.Key=false then 5 else if late=true then 7 else plF c p
def pdF (l:List yq):Int:=if 100 < l.length then 2 else chR yq.Key gP l []
def catF (c:yh):Int:=if pdF c.Products≠0 then pdF c.Products else if 100 < c.Plans.length then 2 else chR yj.Key (gL c) c.Plans []
theorem x9f (x:yq):gP x true≠0:=by unfold gP; split <;> simp
theorem v2q (c:yh) (x:yj):gL c x true≠0:=by unfold gL; split <;> simp
theorem v2p (x:yq):leB x.Key []=false∨∀ a b,gP x a=gP x b:=by
 cases hk:keyP x.Key
 ·exact .inr fun a b=>by simp [gP,hk]
 ·exact .inl (z9y hk)
theorem v2r (c:yh) (x:yj):leB x.Key []=false∨∀ a b,gL c x a=gL c x b:=by
 cases hk:keyP x.Key
 ·exact .inr fun a b=>by simp [gL,hk]
 ·exact .inl (z9y hk)
theorem x6q {l:List yq} (h:pdF l=0):xm yq.Key l:=by
 unfold pdF at h
 split at h
 ·omega
 ·exact (y0w x9f l [] h).1.1
theorem v42 (c : yh) (hb : CB c) : z8x c = some (catF c) := by
  have h1 : z8q c.Products = some (pdF c.Products) := by
    have hn := hb.np
    unfold z8q pdF
    by_cases h1 : 100 < c.Products.length
    · rw [if_pos (by simp; omega), if_pos h1]
    · rw [if_neg (by simp; omega), if_neg h1, if_pos (by omega)]
      rw [y0y (key := yq.Key) (g := gP) v2p c.Products (r := some 0) rfl c.Products 0 [] (.inl ⟨rfl, rfl⟩) (fun j => by simp) fun j x hx => ?_]
      · split
        · rfl
        · next h => have : chR yq.Key gP c.Products [] = 0 := by simpa using h
                    rw [this]
      · obtain ⟨k1, k2⟩ := hb.kp x (List.mem_of_getElem? hx)
        have hJ : ∀ v, z02 x v = if (if v = true then (7 : Int) else scF x.Scopes) ≠ 0 then some (.inr (if v = true then (7 : Int) else scF x.Scopes)) else some (.inl ()) := by
          intro v
          unfold z02
          cases v
          · simp only [Bool.false_eq_true, if_false, y0v _ k2, Option.bind_some]
            by_cases hq : scF x.Scopes = 0 <;> simp [hq]
          · simp
        unfold y28
        simp only [Yj _ (show x.Key.length ≤ 1000000000 by omega), Option.bind_some, hJ]
        unfold gP
        cases hk : keyP x.Key
        · simp
        · simp only [Bool.not_true, Bool.false_eq_true, if_false, reduceCtorEq]
          by_cases h0 : 0 < j
          · obtain ⟨y, hy⟩ : ∃ y, c.Products[j - 1]? = some y := ⟨_, List.getElem?_eq_getElem (by have := jj hx; omega)⟩
            have e1 : at? c.Products ((j : Int) - 1) = some y := by rw [z2p h0]; exact hy
            have e2 : decide (0 < (j : Int)) = true := by simpa using h0
            have e3 : je yq.Key c.Products j x = leB x.Key y.Key := by simp [je, h0, hy]
            simp only [e2, if_true, e1, Option.bind_some, e3]
            rfl
          · have e2 : decide (0 < (j : Int)) = false := by simpa using h0
            have e3 : je yq.Key c.Products j x = false := by simp [je, h0]
            rw [e2, e3]; rfl
  unfold z8x catF
  rw [h1]
  simp only [Option.bind_some]
  by_cases h2 : pdF c.Products ≠ 0
  · rw [if_pos (by simpa using h2), if_pos h2]
  · rw [if_neg (by simpa using h2), if_neg h2]
    have hr := x6q (by simpa using h2 : pdF c.Products = 0)
    have hn := hb.nl
    by_cases h3 : 100 < c.Plans.length
    · rw [if_pos (by simp; omega), if_pos h3]
    · rw [if_neg (by simp; omega), if_neg h3, if_pos (by omega)]
      rw [y0y (key := yj.Key) (g := gL c) (v2r c) c.Plans (r := some 0) rfl c.Plans 0 [] (.inl ⟨rfl, rfl⟩) (fun j => by simp) fun j x hx => ?_]
      · split
        · rfl
        · next h => have : chR yj.Key (gL c) c.Plans [] = 0 := by simpa using h
                    rw [this]
      · obtain ⟨k1, k2⟩ := hb.kl x (List.mem_of_getElem? hx)
        have e0 : z8r c (j : Int) = some (gL c x (je yj.Key c.Plans j x)) := by
          unfold z8r
          rw [Zu, hx]
          simp only [Yj _ (show x.Key.length ≤ 1000000000 by omega), Option.bind_some, w6e c x hb.np hr k2]
          unfold gL
          cases hk : keyP x.Key
          · simp
          · simp only [Bool.not_true, Bool.false_eq_true, if_false, reduceCtorEq]
            by_cases h0 : 0 < j
            · obtain ⟨y, hy⟩ : ∃ y, c.Plans[j - 1]? = some y := ⟨_, List.getElem?_eq_getElem (by have := jj hx; omega)⟩
              have e1 : at? c.Plans (wr ((j : Int) - 1)) = some y := by
                rw [ww (by have := jj hx; omega), z2p h0]; exact hy
              have e2 : decide (0 < (j : Int)) = true := by simpa using h0
              have e3 : je yj.Key c.Plans j x = leB x.Key y.Key := by simp [je, h0, hy]
              simp only [e2, if_true, e1, Option.bind_some, e3]
              rfl
            · have e2 : decide (0 < (j : Int)) = false := by simpa using h0
              have e3 : je yj.Key c.Plans j x = false := by simp [je, h0]
              rw [e2, e3]; rfl
        unfold y3a
        rw [e0]
        simp only [Option.bind_some]
        by_cases hq : gL c x (je yj.Key c.Plans j x) = 0 <;> simp [hq]
theorem x99 (c : yh) (hb : CB c) : z41 c = some (catF c) := by
  have hn := hb.np
  have hm := hb.nl
  unfold z41 catF pdF
  by_cases h1 : 100 < c.Products.length
  · rw [if_pos (by simp; omega), if_pos h1, if_pos (by decide)]
  · rw [if_neg (by simp; omega), if_neg h1, if_pos (by omega)]
    rw [y0x (key := yq.Key) (g := gP) (fin := fun s => z5v c s) (r := z5v c []) (fun s => rfl) c.Products 0 [] fun j x s hx => ?_]
    · by_cases h2 : chR yq.Key gP c.Products [] ≠ 0
      · rw [if_pos h2, if_pos h2]
      · rw [if_neg h2, if_neg h2]
        unfold z5v
        by_cases h3 : 100 < c.Plans.length
        · rw [if_pos (by simp; omega), if_pos h3]
        · rw [if_neg (by simp; omega), if_neg h3, if_pos (by omega)]
          rw [y0x (key := yj.Key) (g := gL c) (fin := fun s => y5f s) (r := some 0) (fun s => rfl) c.Plans 0 [] fun j x s hx => ?_]
          · split
            · rfl
            · next h => have : chR yj.Key (gL c) c.Plans [] = 0 := by simpa using h
                        rw [this]
          · obtain ⟨k1, k2⟩ := hb.kl x hx
            unfold y5d
            simp only [z5h _ (show x.Key.length ≤ 1000000000 by omega), w6d c x hn k2, Option.bind_some]
            show (if (!keyP x.Key) = true then _ else if leB x.Key s = true then _ else _) = _
            unfold gL
            cases keyP x.Key <;> cases leB x.Key s <;> by_cases hq : plF c x = 0 <;> simp [hq]
    · obtain ⟨k1, k2⟩ := hb.kp x hx
      unfold y5e
      simp only [z5h _ (show x.Key.length ≤ 1000000000 by omega), v3m _ k2, Option.bind_some]
      show (if (!keyP x.Key) = true then _ else if leB x.Key s = true then _ else _) = _
      unfold gP
      cases keyP x.Key <;> cases leB x.Key s <;> by_cases hq : scF x.Scopes = 0 <;> simp [hq]
def TC:List qw→Prop
 | []=>True
 | t::l=>((1≤t.From∧t.From≤1000000000000)∧0≤t.Cents∧t.Cents≤1000000)∧(∀ u,l[0]?=some u→t.From < u.From)∧TC l
theorem z7u {n lo hi:Int} (h:outP n lo hi=false):lo≤n∧n≤hi:=by
 unfold outP at h
 simp at h
 omega
theorem x5i {l:List qw} {k:Nat} {x:qw} (h:t1 l k x=0):((1≤x.From∧x.From≤1000000000000)∧0≤x.Cents∧x.Cents≤1000000)∧xh l k x=false:=by
 unfold t1 at h
 rcases Bool.eq_false_or_eq_true (outP x.From 1 1000000000000) with h1 | h1 <;> rcases Bool.eq_false_or_eq_true (outP x.Cents 0 1000000) with h2 | h2 <;> rcases Bool.eq_false_or_eq_true (xh l k x) with h3 | h3 <;> simp [h1,h2,h3] at h
 exact ⟨⟨z7u h1,z7u h2⟩,h3⟩
theorem x45 {l:List qw} (h:tsF l=0):l.length≤20∧∀ k x,l[k]?=some x→t1 l k x=0:=by
 unfold tsF at h
 by_cases h1:20 < l.length
 ·rw [if_pos h1] at h; omega
 ·rw [if_neg h1] at h
  by_cases h2:feI (t1 l) 0 l≠0
  ·rw [if_pos h2] at h; exact absurd h h2
  ·refine ⟨by omega,fun k x hx => ?_⟩
   have:=x1x l 0 (by simpa using h2) k x hx
   simpa using this
theorem x5d {xs:List qw} (h:∀ k x,xs[k]?=some x→t1 xs k x=0):∀ (l:List qw) (k:Nat),(∀ j,l[j]?=xs[k+j]?)→TC l
 | [],_,_=>trivial
 | t::l,k,hl=>by
  have h0:xs[k]?=some t:=by have:=hl 0; simpa using this.symm
  refine ⟨(x5i (h k t h0)).1,fun u hu => ?_,x5d h l (k+1) fun j => ?_⟩
  ·have h1:xs[k+1]?=some u:=by have:=hl 1; rw [← this]; simpa using hu
   have h2:=(x5i (h (k+1) u h1)).2
   simp [xh,h0] at h2
   exact h2
  ·have:=hl (j+1)
   rw [List.getElem?_cons_succ] at this
   rw [this]; congr 1; omega
theorem x46 {l:List qw} (h:tsF l=0):TC l∧l.length≤20:=⟨x5d (x45 h).2 l 0 fun j=>by simp,(x45 h).1⟩
structure PG (p:yj):Prop where
 key:keyP p.Key=true
 base:0≤p.Base∧p.Base≤1000000000000
 free:0≤p.Free∧p.Free≤1000000000000
 tc:TC p.Tiers
 len:p.Tiers.length≤20
theorem w6f {c:yh} {p:yj} (h:gL c p false=0):PG p:=by
 unfold gL at h
 cases hk:keyP p.Key
 ·rw [hk] at h; simp at h
 ·rw [hk] at h
  simp only [Bool.true_eq_false,if_false,Bool.false_eq_true] at h
  unfold plF at h
  rcases Bool.eq_false_or_eq_true (hasP c p.Product) with h1 | h1
  ·rcases Bool.eq_false_or_eq_true (outP p.Base 0 1000000000000) with h2 | h2
   ·simp [h1,h2] at h
   ·rcases Bool.eq_false_or_eq_true (outP p.Free 0 1000000000000) with h3 | h3
    ·simp [h1,h2,h3] at h
    ·by_cases h4:tsF p.Tiers=0
     ·exact ⟨hk,z7u h2,z7u h3,(x46 h4).1,(x46 h4).2⟩
     ·simp [h1,h2,h3,h4] at h
  ·simp [h1] at h
theorem y55 {c:yh} (h:catF c=0):(xm yq.Key c.Products∧xm yj.Key c.Plans)∧∀ p,p∈c.Plans→PG p:=by
 unfold catF at h
 by_cases h1:pdF c.Products≠0
 ·rw [if_pos h1] at h; exact absurd h h1
 ·rw [if_neg h1] at h
  by_cases h2:100 < c.Plans.length
  ·rw [if_pos h2] at h; omega
  ·rw [if_neg h2] at h
   obtain ⟨⟨h3,h4⟩,_⟩:=y0w (v2q c) c.Plans [] h
   exact ⟨⟨x6q (by simpa using h1),h3⟩,fun p hp=>w6f (h4 p hp)⟩
section
variable {p:yj} (hg:PG p) {calls:Int} (hc:0≤calls∧calls≤1000000000000)
include hg hc
end
def hasL (c:yh) (key:Bs):Bool:=c.Plans.any fun x=>decide (x.Key=key)
def ixL (c:yh) (key:Bs):Int:=fdx (fun x:yj=>decide (x.Key=key)) 0 c.Plans
def w6c:yj:=yj.mk [] [] 0 0 [] 0 0 false
theorem y89 (c:yh) (key:Bs) (hl:c.Plans.length≤100000) (hr:xm yj.Key c.Plans):(hasL c key=false∧ixL c key < 0∧z1t c key=some (w6c,false))∨(hasL c key=true∧0≤ixL c key∧∃ x,at? c.Plans (ixL c key)=some x∧x∈c.Plans∧x.Key=key∧z1t c key=some (x,true)):=by
 obtain ⟨r,h1,h2,h3⟩:=x1t yj.Key c.Plans key (p:=fun (a0:yj) (a1:Bs)=>z4n a0 a1) (by omega) (fun x _=>rfl) hr
 have h1':y38 c.Plans key (fun (a0:yj) (a1:Bs)=>z4n a0 a1)=some r:=h1
 unfold z1t
 rw [h1']
 simp only [Option.bind_some]
 have hn:decide (ixL c key < 0) = !hasL c key:=z52 (fun x:yj=>decide (x.Key=key)) c.Plans
 cases hq:hasL c key
 ·left
  have hq':(c.Plans.any fun x=>decide (x.Key=key))=false:=hq
  rw [hq'] at h2
  rw [hq] at hn
  rw [h2]
  exact ⟨rfl,by simpa using hn,rfl⟩
 ·right
  have hq':(c.Plans.any fun x=>decide (x.Key=key))=true:=hq
  obtain ⟨h4,x,h5,h6,h7⟩:=y5u _ _ hq'
  rw [hq'] at h2
  have e1:=h3 h2
  rw [h2,e1,h5]
  exact ⟨rfl,h4,x,h5,List.mem_of_getElem? h6,by simpa using h7,rfl⟩
structure CS (c:yh):Prop where
 np:c.Products.length≤10
 kp:∀ x,x∈c.Products→x.Key.length≤100∧Sh x.Scopes
 nl:c.Plans.length≤10
 kl:∀ x,x∈c.Plans→x.Key.length≤100∧x.Tiers.length≤10
theorem CS.cb {c:yh} (h:CS c):CB c:=⟨by have:=h.np; omega,fun x hx=>by have:=h.kp x hx; exact ⟨by omega,this.2⟩,by have:=h.nl; omega,fun x hx=>by have:=h.kl x hx; omega⟩
set_option linter.unusedSimpArgs false
set_option maxRecDepth 20000
theorem v4t (x y:Int):z47 x y=some (if x < y then -1 else if y < x then 1 else 0):=by
 unfold z47 z9q
 simp only [ne_eq,not_true_eq_false,decide_false,Option.bind_some,Bool.false_eq_true,if_false,decide_eq_true_eq]
 by_cases h1:x < y
 ·rw [if_pos h1,if_pos h1]
 ·rw [if_neg h1,if_neg h1]
  by_cases h2:y < x
  ·rw [if_pos h2,if_pos h2]
  ·rw [if_neg h2,if_neg h2]
theorem v4s (x y:Bs):z9r x y=some (cmpL x y):=by
 unfold z9r z9p
 simp only [ne_eq,not_true_eq_false,decide_false,Option.bind_some,Bool.false_eq_true,if_false]
 have e1:=x0m x y
 have e2:=z0g x y
 rcases x2e x y with h | h | h
 ·rw [e1,h]; rfl
 ·have:x=y:=e2.1 h
  rw [e1,h]; subst this; simp
 ·have h3:x≠y:=fun h4=>by have:=e2.2 h4; omega
  have h4:(x == y)=false:=by simpa using h3
  rw [e1,h,h4]; rfl
def cmp2 (a b c d:Bs):Int:=if cmpL a c≠0 then cmpL a c else cmpL b d
theorem v4r (a b c d:Bs):z4l [a,b] [c,d]=some (cmp2 a b c d):=by
 unfold z4l cmp2
 rw [if_pos (by simp)]
 simp only [forL,y2t,y2u,v4s]
 by_cases h1:cmpL a c=0
 ·by_cases h2:cmpL b d=0
  ·simp [h1,h2,after]
  ·simp [h1,h2,after]
 ·simp [h1,after]
theorem w6n (x y z:Int):z45 [x,y,z]=some (if x≠0 then x else if y≠0 then y else z):=by
 unfold z45
 rw [if_pos (by simp)]
 simp only [forL,y51,y52]
 by_cases h1:x=0
 ·by_cases h2:y=0
  ·by_cases h3:z=0
   ·simp [h1,h2,h3,after]
   ·simp [h1,h2,h3,after]
  ·simp [h1,h2,after]
 ·simp [h1,after]
def or3 (m n:Int) (a b c d:Bs):Int:=if m < n then -1 else if n < m then 1 else cmp2 a b c d
def orE (a b:zq):Int:=or3 a.At b.At a.App a.Product b.App b.Product
theorem w6o (m n:Int) (a b c d:Bs):((z47 m n).bind fun r3=>(Qk a c).bind fun r5=>(Qk b d).bind fun r7=>(z45 [r3,r5,r7]).bind fun r9=>some r9)=some (or3 m n a b c d):=by
 simp only [v4t,Qk,Option.bind_some,w6n]
 congr 1
 unfold or3 cmp2
 by_cases h1:m < n
 ·simp [h1]
 ·by_cases h2:n < m
  ·simp [h1,h2]
  ·simp [h1,h2]
theorem w55 (m n:Int) (a b c d:Bs) (h:-1000000000000000000≤m∧m≤1000000000000000000∧-1000000000000000000≤n∧n≤1000000000000000000):(if decide (m≠n) then ((z9c (wr (m - n))).bind fun (r4:Int)=>some r4) else ((z4l [a,b] [c,d]).bind fun (r6:Int)=>some r6))=some (or3 m n a b c d):=by
 rw [v4r]
 unfold z9c or3
 rw [ww (by omega)]
 by_cases h1:m=n
 ·subst h1; simp
 ·simp only [ne_eq,h1,not_false_eq_true,decide_true,if_true,decide_eq_true_eq]
  by_cases h2:m < n
  ·have:m - n < 0:=by omega
   simp [h2,this]
  ·have h3:n < m:=by omega
   have h4:¬ m - n < 0:=by omega
   have h5:0 < m - n:=by omega
   simp [h2,h3,h4,h5]
theorem v4u (a b:zq):y4b a b=some (orE a b):=w6o ..
def atB (n:Int):Prop:=-1000000000000000000≤n∧n≤1000000000000000000
theorem y3d (a b:zq) (ha:atB a.At) (hb:atB b.At):Yg a b=some (orE a b):=w55 _ _ _ _ _ _ ⟨ha.1,ha.2,hb.1,hb.2⟩
structure EB (x:zq):Prop where
 t:atB x.At
 a:x.App.length≤1000000
 p:x.Product.length≤1000000
 l:x.Plan.length≤1000000
def ud (l:List zq) (k:Nat) (x:zq):Bool:=decide (0 < k) && match l[k - 1]? with | some y=>decide (0≤orE y x) | none=>false
structure EG (x:zq):Prop where
 t:0≤x.At∧x.At≤345686399999
 a:keyP x.App=true
 p:keyP x.Product=true
 k:1≤x.Kind∧x.Kind≤6
 l:x.Plan.length≤40
section
variable {α β σ τ ρ ρ':Type}
theorem y40 {body:σ→Option (σ ⊕ ρ)} {s s':σ} (h:body s=some (.inl s')):iter body s=iter body s':=by
 have key:∀ r,iter body s=some r↔iter body s'=some r:=fun r=>by
  rw [Zo,Zo]
  constructor
  ·rintro ⟨n,hn⟩
   cases n with
   | zero=>cases hn
   | succ n =>
    have hn:(body s).bind (after (itN body n))=some r:=hn
    rw [h] at hn
    exact ⟨n,hn⟩
  ·rintro ⟨n,hn⟩
   exact ⟨n+1,by show (body s).bind (after (itN body n))=some r; rw [h]; exact hn⟩
 cases h1:iter body s' with
 | some r=>exact (key r).2 h1
 | none =>
  cases h2:iter body s with
  | none=>rfl
  | some r=>rw [(key r).1 h2] at h1; cases h1
theorem Yi {body:σ→Option (σ ⊕ ρ)} {s:σ} {r:ρ} (h:body s=some (.inr r)):iter body s=some r:=
 Zo.2 ⟨1,by show (body s).bind (after (itN body 0))=some r; rw [h]; rfl⟩
def gJ4 (i j:Int) (l:List α) (v:Bool):Option ((Int×List α) ⊕ ((Int×List α) ⊕ List α)):=
 if v then ((at? l (wr (j - 1))).bind fun (x22:α)=>(at? l j).bind fun (x24:α)=>(at? (l.set j.toNat x22) (wr (j - 1))).bind fun (x26:α)=>some (.inl (wr (j - 1),((l.set j.toNat x22).set ((wr (j - 1)).toNat) x24)))) else (Option.map .inr (some (.inl (wr (i+1),l))))
def gL3 (a:Int) (p:α→α→Option Int) (i j:Int) (l:List α):Option ((Int×List α) ⊕ ((Int×List α) ⊕ List α)):=
 if decide (a < j) then ((at? l j).bind fun (x13:α)=>(at? l (wr (j - 1))).bind fun (x15:α)=>(p x13 x15).bind fun (r17:Int)=>gJ4 i j l (decide (r17 < 0))) else (gJ4 i j l false)
noncomputable def gL1 (a b:Int) (p:α→α→Option Int) (i:Int) (l:List α):Option ((Int×List α) ⊕ List α):=
 if decide (i < b) then (iter (fun (s:Int×List α)=>gL3 a p i s.1 s.2) (i,l)) else (some (.inr l))
noncomputable def gIns (l:List α) (a b:Int) (p:α→α→Option Int):Option (List α):=iter (fun (s:Int×List α)=>gL1 a b p s.1 s.2) (wr (a+1),l)
theorem w0d (A C:List α) (x:α):at? (A++x::C) (A.length:Int)=some x:=by
 rw [Zu]; simp
theorem w26 (A C:List α) (y x:α):((A++y::x::C).set (A.length+1) y).set A.length x=A++x::y::C:=by
 induction A with
 | nil=>rfl
 | cons a A ih=>simp only [List.cons_append,List.length_cons,List.set_cons_succ,ih]
section
variable {p:α→α→Option Int} {q:β→β→Option Int} {f:α→β}
def y44 (p:α→α→Option Int) (q:β→β→Option Int) (f:α→β) (x y:α):Prop:=∃ c d,p x y=some c∧q (f x) (f y)=some d∧(c < 0↔d < 0)
theorem x9g (i:Int) (l:List α):gL3 0 p i 0 l=some (.inr (.inl (wr (i+1),l))):=by
 unfold gL3 gJ4
 simp
theorem x9h (i:Int) (A C:List α) (y x:α) {c:Int} (hA:A.length≤1000000) (hp:p x y=some c) (hc:¬ c < 0):gL3 0 p i ((A.length+1:Nat):Int) (A++y::x::C)=some (.inr (.inl (wr (i+1),A++y::x::C))):=by
 have e1:wr (((A.length+1:Nat):Int) - 1)=(A.length:Int):=by rw [ww (by omega)]; omega
 have e2:at? (A++y::x::C) ((A.length+1:Nat):Int)=some x:=by rw [Zu]; simp
 unfold gL3 gJ4
 rw [if_pos (by simp),e1,e2,w0d]
 simp only [Option.bind_some,hp]
 rw [if_neg (by simpa using hc)]; rfl
theorem x9i (i:Int) (A C:List α) (y x:α) {c:Int} (hA:A.length≤1000000) (hp:p x y=some c) (hc:c < 0):gL3 0 p i ((A.length+1:Nat):Int) (A++y::x::C)=some (.inl ((A.length:Int),A++x::y::C)):=by
 have e1:wr (((A.length+1:Nat):Int) - 1)=(A.length:Int):=by rw [ww (by omega)]; omega
 have e2:at? (A++y::x::C) ((A.length+1:Nat):Int)=some x:=by rw [Zu]; simp
 unfold gL3 gJ4
 rw [if_pos (by simp),e1,e2,w0d]
 simp only [Option.bind_some,hp]
 rw [if_pos (by simpa using hc)]
 simp only [Int.toNat_natCast]
 have e3:at? ((A++y::x::C).set (A.length+1) y) (A.length:Int)=some y:=by
  rw [Zu,List.getElem?_set_ne (by omega)]; simp
 rw [e3]
 simp only [Option.bind_some]
 rw [w26]
theorem v1z (i:Int) (x:α) (C:List α):∀ (n:Nat) (A B:List α),A.length=n→n≤1000000→(∀ y,y∈A→y44 p q f x y) →
  ∃ A' B',A'++B'=A++B∧iter (fun (s:Int×List α)=>gL3 0 p i s.1 s.2) ((n:Int),A++x::(B++C))=some (.inl (wr (i+1),A'++x::(B'++C))) ∧
   iter (fun (s:Int×List β)=>gL3 0 q i s.1 s.2) ((n:Int),(A++x::(B++C)).map f)=some (.inl (wr (i+1),(A'++x::(B'++C)).map f)):=by
 intro n
 induction n with
 | zero =>
  intro A B hA _ _
  exact ⟨A,B,rfl,Yi (x9g i _),Yi (x9g i _)⟩
 | succ n ih =>
  intro A B hA hn hg
  obtain ⟨A0,y,rfl⟩:∃ A0 y,A=A0++[y]:=by
   rcases List.eq_nil_or_concat A with rfl | ⟨A0,y,h⟩
   ·simp at hA
   ·exact ⟨A0,y,by simpa using h⟩
  have hA0:A0.length=n:=by simpa using hA
  obtain ⟨c,d,h1,h2,h3⟩:=hg y (by simp)
  subst hA0
  have e1:(A0++[y])++x::(B++C)=A0++y::x::(B++C):=by simp
  have e2:(A0++y::x::(B++C)).map f=A0.map f++f y::f x::(B++C).map f:=by simp
  have hl:A0.length=(A0.map f).length:=by simp
  by_cases hc:c < 0
  ·obtain ⟨A',B',q1,q2,q3⟩:=ih A0 (y::B) rfl (by omega) (fun z hz=>hg z (List.mem_append_left _ hz))
   refine ⟨A',B',by rw [q1]; simp,?_,?_⟩
   ·rw [e1]
    exact (y40 (x9i i A0 (B++C) y x (by omega) h1 hc)).trans q2
   ·rw [e1,e2]
    have h4:=x9i i (A0.map f) ((B++C).map f) (f y) (f x) (by rw [← hl]; omega) h2 (h3.1 hc)
    rw [← hl] at h4
    refine (y40 h4).trans ?_
    have e3:(A0++x::(y::B++C)).map f=A0.map f++f x::f y::(B++C).map f:=by simp
    rw [← e3]; exact q3
  ·refine ⟨A0++[y],B,rfl,?_,?_⟩
   ·rw [e1]
    exact Yi (x9h i A0 (B++C) y x (by omega) h1 hc)
   ·rw [e1,e2]
    have h4:=x9h i (A0.map f) ((B++C).map f) (f y) (f x) (by rw [← hl]; omega) h2 (fun h=>hc (h3.2 h))
    rw [← hl] at h4
    exact Yi h4
theorem x8v (m:Nat):∀ (rest pre:List α),pre.length+rest.length=m→m≤1000000→(∀ y x,y∈pre→x∈rest→y44 p q f x y)→rest.Pairwise (fun y x=>y44 p q f x y) →
  ∃ r,r.Perm (pre++rest)∧iter (fun (s:Int×List α)=>gL1 0 (m:Int) p s.1 s.2) ((pre.length:Int),pre++rest)=some r ∧
   iter (fun (s:Int×List β)=>gL1 0 (m:Int) q s.1 s.2) ((pre.length:Int),(pre++rest).map f)=some (r.map f)
 | [],pre,hm,_,_,_=>by
  refine ⟨pre++[],List.Perm.refl _,Yi ?_,Yi ?_⟩
  ·unfold gL1; rw [if_neg (by simp at hm; simp; omega)]
  ·unfold gL1; rw [if_neg (by simp at hm; simp; omega)]
 | x::rest,pre,hm,hb,hg,hp=>by
  simp only [List.length_cons] at hm
  obtain ⟨hp1,hp2⟩:=List.pairwise_cons.1 hp
  obtain ⟨A',B',q1,q2,q3⟩:=v1z (p:=p) (q:=q) (f:=f) (pre.length:Int) x rest pre.length pre [] rfl (by omega) (fun y hy=>hg y x hy (by simp))
  rw [List.append_nil] at q1
  rw [List.nil_append] at q2 q3
  have hw:wr ((pre.length:Int)+1)=((pre.length+1:Nat):Int):=w0r (by omega)
  have hlen:(A'++x::B').length=pre.length+1:=by
   have:=congrArg List.length q1
   simp at this ⊢; omega
  have hperm:(A'++x::B').Perm (x::pre):=by
   rw [← q1]; exact List.perm_middle
  obtain ⟨r,r1,r2,r3⟩:=x8v m rest (A'++x::B') (by rw [hlen]; omega) hb (fun y z hy hz=>by
   rcases List.mem_cons.1 (hperm.mem_iff.1 hy) with rfl | hy
   ·exact hp1 z hz
   ·exact hg y z hy (List.mem_cons_of_mem _ hz)) hp2
  have e0:A'++x::(B'++rest)=(A'++x::B')++rest:=by simp
  rw [hlen,← hw,← e0] at r2 r3
  have hlt:decide ((pre.length:Int) < (m:Int))=true:=by simp; omega
  refine ⟨r,r1.trans ?_,?_,?_⟩
  ·refine (hperm.append_right rest).trans ?_
   exact List.perm_middle.symm
  ·refine (y40 (s':=(wr ((pre.length:Int)+1),A'++x::(B'++rest))) ?_).trans r2
   unfold gL1
   rw [if_pos hlt]
   exact q2
  ·refine (y40 (s':=(wr ((pre.length:Int)+1),(A'++x::(B'++rest)).map f)) ?_).trans r3
   unfold gL1
   rw [if_pos hlt]
   exact q3
theorem v2s (l:List α) (h:l.length≤1000000) (hp:l.Pairwise fun y x=>y44 p q f x y):∃ r,r.Perm l∧gIns l 0 (l.length:Int) p=some r∧gIns (l.map f) 0 (l.length:Int) q=some (r.map f):=by
 have hw:wr ((0:Int)+1)=1:=by decide
 unfold gIns
 rw [hw]
 cases l with
 | nil =>
  refine ⟨[],List.Perm.refl _,Yi ?_,Yi ?_⟩
  ·unfold gL1; rw [if_neg (by simp)]
  ·unfold gL1; rw [if_neg (by simp)]
 | cons x l =>
  obtain ⟨hp1,hp2⟩:=List.pairwise_cons.1 hp
  obtain ⟨r,r1,r2,r3⟩:=x8v (x::l).length l [x] (by simp only [List.length_cons,List.length_nil]; omega) h (fun y z hy hz=>by rw [List.mem_singleton.1 hy]; exact hp1 z hz) hp2
  exact ⟨r,r1,r2,r3⟩
end
noncomputable def v2n (n2:Int) (bs a19 b20:Int):Option ((Int×Int) ⊕ (Int ⊕ List α)):=
 if decide (b20≤n2) then none else (Option.map .inr (if decide ((wr (a19+bs)) < n2) then none else (some (.inl (wr (bs * 2))))))
noncomputable def x1r (n2:Int) (r13:List α) (bs:Int):Option (Int ⊕ List α):=
 if decide (bs < n2) then (iter (fun (s:Int×Int)=>v2n n2 bs s.1 s.2) (0,wr (2 * bs))) else (some (.inr r13))
noncomputable def x9e (n2:Int) (p2:α→α→Option Int) (a11:Int) (d12:List α):Option (List α):=
 (gIns d12 a11 n2 p2).bind fun (r13:List α)=>if r13.length=d12.length then (iter (fun (s:Int)=>x1r n2 r13 s) 20) else none
noncomputable def x1s (n2:Int) (p2:α→α→Option Int) (a3 b4:Int) (l5:List α):Option ((Int×Int×List α) ⊕ List α):=
 if decide (b4≤n2) then ((gIns l5 a3 b4 p2).bind fun (r8:List α)=>if r8.length=l5.length then (some (.inl (b4,wr (b4+20),r8))) else none) else (Option.map .inr (x9e n2 p2 a3 l5))
noncomputable def v2m (d1:List α) (n2:Int) (p2:α→α→Option Int):Option (List α):=iter (fun (s:Int×Int×List α)=>x1s n2 p2 s.1 s.2.1 s.2.2) (0,20,d1)
theorem v2l (l r:List α) (p:α→α→Option Int) (h:l.length≤19) (hr:gIns l 0 (l.length:Int) p=some r) (hl:r.length=l.length):v2m l (l.length:Int) p=some r:=by
 refine Yi ?_
 show x1s (l.length:Int) p 0 20 l=_
 unfold x1s x9e
 rw [if_neg (by simp; omega),hr]
 simp only [Option.bind_some]
 rw [if_pos hl]
 have:iter (fun (s:Int)=>x1r (l.length:Int) r s) 20=some r:=by
  refine Yi ?_
  unfold x1r
  rw [if_neg (by simp; omega)]
 rw [this]; rfl
end
section
variable {α:Type}
noncomputable def gCfJ (z:α) (v30:Int) (v31:List α):Option (Int ⊕ List α):=
 if (0:Int)≤v30∧v30 < (v31.length:Int) then (if (0:Int)≤v30∧v30≤((v31.take v30.toNat++List.replicate (v31.length - v30.toNat) z).length:Int) then (some (.inr ((v31.take v30.toNat++List.replicate (v31.length - v30.toNat) z).take v30.toNat))) else none) else none
noncomputable def gCfI (z:α) (p1:α→α→Option Bool) (v3 v14 v15:Int) (l16:List α):Option ((Int×Int×List α) ⊕ (Int ⊕ List α)):=
 if decide (v15 < ((l16.drop v3.toNat).length:Int)) then ((at? (l16.drop v3.toNat) v15).bind fun x19=>(at? (l16.drop v3.toNat) (wr (v15 - 1))).bind fun x21=>(p1 x19 x21).bind fun (r23:Bool)=>if !r23 then ((at? l16 v14).bind fun x26=>some (.inl (wr (v14+1),wr (v15+1),l16.set v14.toNat x19))) else (some (.inl (v14,wr (v15+1),l16)))) else (Option.map .inr (gCfJ z v14 l16))
noncomputable def gCfO (z:α) (v1:List α) (p1:α→α→Option Bool) (v3:Int):Option (Int ⊕ List α):=
 if decide (v3 < (v1.length:Int)) then ((at? v1 v3).bind fun x6=>(at? v1 (wr (v3 - 1))).bind fun x8=>(p1 x6 x8).bind fun (r10:Bool)=>if r10 then (if (0:Int)≤v3∧v3 < (v1.length:Int) then (iter (fun (s:Int×Int×List α)=>gCfI z p1 v3 s.1 s.2.1 s.2.2) (v3,1,v1)) else none) else (some (.inl (wr (v3+1))))) else (Option.map .inr (some v1))
noncomputable def gCf (z:α) (v1:List α) (p1:α→α→Option Bool):Option (List α):=
 if decide ((v1.length:Int) < 2) then some v1 else (iter (fun (s:Int)=>gCfO z v1 p1 s) 1)
theorem z0h (l:List α) (m:Int) (h:0≤m∧m < (l.length:Int)):∃ y,at? l m=some y∧y∈l∧l[m.toNat]?=some y:=by
 unfold at?
 rw [if_pos h.1,List.getElem?_eq_getElem (by omega)]
 exact ⟨_,rfl,List.getElem_mem _,rfl⟩
theorem v2v (z:α) (l:List α) (p:α→α→Option Bool) (hl:l.length≤1000000) (hp:∀ x y,x∈l→y∈l→∃ b,p x y=some b):Ok (gCf z l p) fun r=>r.length≤l.length∧∀ x,x∈r→x∈l:=by
 unfold gCf
 refine vo (fun _=>qa ⟨Nat.le_refl _,fun x hx=>hx⟩) (fun h2 => ?_)
 have h2:2≤l.length:=by simp at h2; omega
 refine z3u (fun s:Int=>1≤s∧s≤(l.length:Int)) (fun s=>((l.length:Int) - s).toNat) ?_ 1 ⟨by omega,by omega⟩
 intro s hs
 unfold gCfO
 refine vo (fun hc => ?_) (fun hc=>qa ⟨Nat.le_refl _,fun x hx=>hx⟩)
 have hc:s < (l.length:Int):=by simpa using hc
 obtain ⟨x,hx,mx,_⟩:=z0h l s ⟨by omega,hc⟩
 obtain ⟨y,hy,my,_⟩:=z0h l (s - 1) ⟨by omega,by omega⟩
 rw [ww (n:=s - 1) (by omega),hx,hy]
 obtain ⟨b,hb⟩:=hp x y mx my
 simp only [Option.bind_some,hb]
 refine vo (fun _=>ok_g ⟨by omega,hc⟩ ?_) (fun _=>qa ?_)
 ·refine z3u (fun q:Int×Int×List α=>s≤q.1∧1≤q.2.1∧q.1 < s+q.2.1∧s+q.2.1≤(l.length:Int)∧q.2.2.length=l.length∧∀ x,x∈q.2.2→x∈l) (fun q=>((l.length:Int) - q.2.1).toNat) ?_ _ ⟨by simp,by simp,by simp only; omega,by simp only; omega,rfl,fun x hx=>hx⟩
  rintro ⟨i,j,m⟩ ⟨q1,q2,q3,q4,q5,q6⟩
  simp only at q1 q2 q3 q4 q5 q6
  unfold gCfI
  have hd:((m.drop s.toNat).length:Int)=(l.length:Int) - s:=by rw [List.length_drop]; omega
  refine vo (fun hj => ?_) (fun hj => ?_)
  ·have hj:j < ((m.drop s.toNat).length:Int):=by simpa using hj
   obtain ⟨x1,e1,m1,_⟩:=z0h (m.drop s.toNat) j ⟨by omega,hj⟩
   obtain ⟨x2,e2,m2,_⟩:=z0h (m.drop s.toNat) (j - 1) ⟨by omega,by omega⟩
   obtain ⟨x3,e3,m3,_⟩:=z0h m i ⟨by omega,by omega⟩
   obtain ⟨b2,hb2⟩:=hp x1 x2 (q6 _ (List.mem_of_mem_drop m1)) (q6 _ (List.mem_of_mem_drop m2))
   simp only
   rw [ww (n:=j - 1) (by omega),e1,e2]
   simp only [Option.bind_some,hb2,e3]
   rw [ww (n:=j+1) (by omega),ww (n:=i+1) (by omega)]
   refine vo (fun _=>qa ?_) (fun _=>qa ?_)
   ·refine ⟨⟨by simp only; omega,by simp only; omega,by simp only; omega,by simp only; omega,by simp only [List.length_set]; exact q5,fun x hx => ?_⟩,by simp only; omega⟩
    rcases List.mem_or_eq_of_mem_set hx with hx | hx
    ·exact q6 x hx
    ·rw [hx]; exact q6 _ (List.mem_of_mem_drop m1)
   ·exact ⟨⟨by simp only; omega,by simp only; omega,by simp only; omega,by simp only; omega,q5,q6⟩,by simp only; omega⟩
  ·have hj:¬ j < ((m.drop s.toNat).length:Int):=by simpa using hj
   simp only
   unfold gCfJ
   rw [if_pos ⟨by omega,by omega⟩,if_pos ⟨by omega,by simp; omega⟩]
   refine qa ?_
   simp only [rd]
   have e:(m.take i.toNat++List.replicate (m.length - i.toNat) z).take i.toNat=m.take i.toNat:=by
    have:(m.take i.toNat).length=i.toNat:=by rw [List.length_take]; omega
    conv=>lhs; arg 1; rw [← this]
    rw [List.take_left]
   rw [e]
   exact ⟨by rw [List.length_take]; omega,fun x hx=>q6 x (List.mem_of_mem_take hx)⟩
 ·simp only [rd]
  rw [ww (n:=s+1) (by omega)]
  omega
theorem x7q (l:List α) (h:l≠[]) (hl:l.length≤1000000000):∃ y,at? l (wr ((l.length:Int) - 1))=some y∧l.getLast?=some y:=by
 have hp:0 < l.length:=by cases l with | nil=>exact absurd rfl h | cons _ _=>simp
 rw [ww (by omega)]
 obtain ⟨y,h1,_,h3⟩:=z0h l ((l.length:Int) - 1) ⟨by omega,by omega⟩
 refine ⟨y,h1,?_⟩
 rw [List.getLast?_eq_getElem?,← h3]
 congr 1
 omega
end
theorem v6d {k:Int} {s:zy} (h:SB k s) (hk:k≤100000):Ok (z12 s) fun r=>(r.1.length≤3∧∀ x,x∈r.1→x.Key.length≤100∧x.Owner.length≤100)∧SB (k+2) r.2:=by
  unfold z12
  refine qf (Yz h (by omega) _ ⟨by simp,by simp⟩) fun r2 h2=>qf (xw h2.2 (by omega) _ ⟨by simp,by simp⟩) fun r4 h4 => ?_
  have b4:=h4.1
  simp only [List.mem_cons,List.not_mem_nil,or_false] at b4
  have b2:r2.1.length≤100:=by
    have h1:=h2.1
    simp only [List.mem_cons,List.not_mem_nil,or_false] at h1
    rcases h1 with h1 | h1 <;> rw [h1] <;> decide
  have hs:∀ (l:List yd),l.length=3→(∀ x,x∈l→x.Key.length≤100∧x.Owner.length≤100)→(l.take r4.1.toNat).length≤3∧∀ x,x∈l.take r4.1.toNat→x.Key.length≤100∧x.Owner.length≤100:=fun l hl hx=>⟨by rw [List.length_take]; omega,fun x h=>hx x (List.mem_of_mem_take h)⟩
  have hsub:=hs [(yd.mk [97,112,112,49] [97,110,110]),(yd.mk [97,112,112,50] r2.1),(yd.mk [97,112,112,51] [98,111,98])] rfl fun x hx => ?_
  · first
    | exact ok_g (by simp only [List.length_cons,List.length_nil]; omega) (qa ⟨hsub,h4.2.mono (by omega)⟩)
    | (unfold sub?
       rw [if_pos (by simp only [List.length_cons,List.length_nil]; omega)]
       exact qa ⟨hsub,h4.2.mono (by omega)⟩)
  simp only [List.mem_cons,List.not_mem_nil,or_false] at hx
  rcases hx with hx | hx | hx <;> subst hx
  · exact ⟨by simp,by simp⟩
  · exact ⟨by simp,b2⟩
  · exact ⟨by simp,by simp⟩
theorem v1t (c:yh) (key:Bs) (h:¬ ixL c key < 0):∃ y,at? c.Plans (ixL c key)=some y:=by
 have h1:=x1y (fun x:yj=>decide (x.Key=key)) c.Plans
 have h2:decide (0≤fdx (fun x:yj=>decide (x.Key=key)) 0 c.Plans)=true:=by
  have:0≤ixL c key:=by omega
  simpa [ixL] using this
 rw [h2] at h1
 obtain ⟨_,x,h3,_⟩:=y5u _ c.Plans h1.symm
 exact ⟨x,h3⟩
theorem v5z (c:yh) (hb:c.Plans.length≤100000) (s:zz) (x:zq):Ok (z9f c s x) fun _=>True:=by
 have hp:Ye c x.Plan=some (ixL c x.Plan):=x6n c x.Plan hb
 unfold z9f z5s Za z5r z5q
 by_cases hk:x.Kind=1
 ·by_cases hi:ixL c x.Plan < 0
  ·simp only [hk,hp,hi,decide_true,if_true,Option.bind_some]
   exact qa trivial
  ·obtain ⟨y,hy⟩:=v1t c x.Plan hi
   simp only [hk,hp,hi,hy,z0a,decide_true,decide_false,Bool.false_eq_true,if_false,if_true,Option.bind_some]
   repeat' first | exact qa trivial | refine vo (fun _ => ?_) (fun _ => ?_)
 ·simp only [hk,z0a,decide_false,Bool.false_and,Bool.false_eq_true,if_false,Option.bind_some]
  repeat' first | exact qa trivial | refine vo (fun _ => ?_) (fun _ => ?_)
theorem w4s (c:yh) (hb:c.Plans.length≤100000) (l:List zq) (hl:l.length≤1000000) (a p:Bs):Ok (z9g c l a p) fun r=>r.1≠[]∧r.1.length≤l.length+1:=by
 unfold z9g y4g
 simp only [Option.bind_some]
 refine ok_g (by omega) ?_
 refine z3v (fun (j:Nat) (q:(List zz)×(List Int))=>q.1≠[]∧q.1.length≤j+1∧q.2.length≤j) _ 0 _ ⟨by simp,by simp,by simp⟩ ?_ ?_
 ·rintro j x ⟨u,v⟩ _ hx ⟨q1,q2,q3⟩
  simp only at q1 q2 q3
  have hj:j < l.length:=by have:=jj hx; omega
  unfold y5a z2f
  refine vo (fun _=>qa ⟨q1,by simp only; omega,by simp only; omega⟩) (fun _ => ?_)
  obtain ⟨y,hy,_⟩:=x7q u q1 (by omega)
  simp only [hy,Option.bind_some]
  refine qf (v5z c hb y x) fun r _=>vo (fun _=>ok_g (by omega) (qa ?_)) (fun _=>ok_g (by omega) (qa ?_))
  ·exact ⟨by simp,by simp; omega,by simp only; omega⟩
  ·exact ⟨q1,by simp only; omega,by simp; omega⟩
 ·rintro ⟨u,v⟩ ⟨q1,q2,q3⟩
  unfold y5b
  exact qa ⟨q1,by simp only at q2 ⊢; omega⟩
abbrev EQ:Type:=(Int×(List Int)×Int×(List zq)) ⊕ ((List zq)×zy)
def ER (K:Int) (a:Int) (n:Nat) (R:(List zq)×zy→Prop):EQ→Prop:=
 rd (fun q=>SB K ⟨q.2.1,q.2.2.1⟩∧(0≤q.1∧q.1≤a+2592000000)∧q.2.2.2.length≤n+1∧∀ x,x∈q.2.2.2→EB x) R
section
variable {K:Int} {n:Nat} {v5:Int} {l8:List zq} {r21:Int×zy} {r25:Bs×zy} {R:(List zq)×zy→Prop}
variable (hv:0≤v5∧v5≤1000000000000000) (h21:0≤r21.1∧r21.1≤2592000000) (hl:l8.length≤n∧n≤1000∧∀ x,x∈l8→EB x) (h25:r25.1.length≤100)
include hv h21 hl
theorem eJ2 {K2:Int} (hK:K2≤K) {c d} (hs:SB K2 ⟨c,d⟩):Ok (z0f (wr (v5+r21.1)) l8 c d) (ER K v5 n R):=by
 unfold z0f
 rw [ww (by omega)]
 exact qa ⟨hs.mono hK,by simp only; omega,by have:=hl.1; simp only; omega,hl.2.2⟩
theorem eJ9 {K2:Int} (hK:K2≤K) {c d} (hs:SB K2 ⟨c,d⟩) {t:Int} {a p k q} (hx:EB (zq.mk t a p k q)):Ok (Zq v5 l8 r21 c d t a p k q) (ER K v5 n R):=by
 have h1:=hl.1
 have h2:=hl.2.1
 unfold Zq z0f
 rw [ww (by omega)]
 refine ok_g (by omega) (qa ⟨hs.mono hK,by simp only; omega,by simp; omega,fun x hm => ?_⟩)
 rcases List.mem_append.1 hm with hm | hm
 ·exact hl.2.2 x hm
 ·rw [List.mem_singleton.1 hm]; exact hx
include h25
theorem eJ8 {c44:Bs} (h44:c44.length≤100) {c76:Int} {c d} (hs:SB K ⟨c,d⟩) (hk:K≤100000) {q:Bs} (hq:q.length≤100):Ok (z2j v5 l8 r21 r25 c44 c76 c d q) (ER (K+4) v5 n R):=by
 unfold z2j
 have ht:atB (wr (v5+r21.1)):=by rw [ww (by omega)]; unfold atB; omega
 refine qf (z2l hs (by omega) _ (by omega)) fun r86 h86=>vo (fun _ => ?_) (fun _=>eJ9 hv h21 hl (by omega) h86 ⟨ht,by simp only; omega,by simp only; omega,by simp only; omega⟩)
 refine qf (z1d h86 (by omega) _ (by omega)) fun r89 h89=>vo (fun _ => ?_) (fun _=>vo (fun _ => ?_) (fun _=>vo (fun _ => ?_) (fun _=>vo (fun _ => ?_) (fun _ => ?_))))
 ·unfold y4l
  refine qf (Q:=fun (r:Bs×zy)=>r.1.length≤100∧SB (K+3) r.2) (qf (Yz h89.2 (by omega) _ ⟨by simp,by simp⟩) fun r2 h2=>qa ⟨?_,h2.2.mono (by omega)⟩) fun r92 h92=>eJ9 hv h21 hl (by omega) h92.2 ⟨ht,by have:=h92.1; simp only; omega,by simp only; omega,by simp only; omega⟩
  have h1:=h2.1
  simp only [List.mem_cons,List.not_mem_nil,or_false] at h1
  rcases h1 with h1 | h1 | h1 | h1 | h1 | h1 <;> simp only [h1] <;> decide
 ·unfold y4k
  refine qf (Q:=fun (r:Bs×zy)=>r.1.length≤100∧SB (K+3) r.2) (qf (Yz h89.2 (by omega) _ ⟨by simp,by simp⟩) fun r2 h2=>qa ⟨?_,h2.2.mono (by omega)⟩) fun r92 h92=>eJ9 hv h21 hl (by omega) h92.2 ⟨ht,by simp only; omega,by have:=h92.1; simp only; omega,by simp only; omega⟩
  have h1:=h2.1
  simp only [List.mem_cons,List.not_mem_nil,or_false] at h1
  rcases h1 with h1 | h1 | h1 | h1 | h1 <;> simp only [h1] <;> decide
 ·exact qf (x61 h89.2 (by omega) _ _ (by omega)) fun r98 h98=>eJ9 hv h21 hl (by omega) h98.2 ⟨ht,by simp only; omega,by simp only; omega,by simp only; omega⟩
 ·refine qf (Yz h89.2 (by omega) _ ⟨by simp,by simp⟩) fun r101 h101=>eJ9 hv h21 hl (by omega) h101.2 ⟨ht,by simp only; omega,by simp only; omega,?_⟩
  have h1:=h101.1
  simp only [List.mem_cons,List.not_mem_nil,or_false] at h1
  rcases h1 with h1 | h1 | h1 <;> simp only [h1] <;> decide
 ·exact qf (x61 h89.2 (by omega) _ _ (by omega)) fun r103 h103=>eJ9 hv h21 hl (by omega) h103.2 ⟨by have:=h103.1; unfold atB; simp only; omega,by simp only; omega,by simp only; omega,by simp only; omega⟩
theorem eJ6 {c44:Bs} (h44:c44.length≤100) {l45:List Bs} (h45:l45.length≤1000∧∀ x,x∈l45→x.length≤100) {c76:Int} {c d} (hs:SB K ⟨c,d⟩) (hk:K≤90000):Ok (Zr v5 l8 r21 r25 c44 l45 c d c76) (ER (K+5) v5 n R):=by
 unfold Zr
 refine vo (fun _=>vo (fun _=>eJ2 hv h21 hl (by omega) hs) (fun h0 => ?_)) (fun _ => ?_)
 ·have h0:0 < l45.length:=by simp at h0; cases hq:l45 with | nil=>exact absurd hq h0 | cons _ _=>simp
  refine qf (z1d hs (by omega) _ (by omega)) fun r79 h79 => ?_
  obtain ⟨y,h1,h2,_⟩:=z0h l45 r79.1 ⟨h79.1.1,h79.1.2.1 (by omega)⟩
  rw [h1]
  simp only [Option.bind_some]
  exact z3t (eJ8 (K:=K+1) (n:=n) (R:=R) hv h21 hl h25 h44 h79.2 (by omega) (h45.2 y h2)) fun q hq=>by rw [show K+5=K+1+4 by omega]; exact hq
 ·exact z3t (eJ8 (K:=K+1) (n:=n) (R:=R) hv h21 hl h25 h44 (hs.mono (by omega)) (by omega) (by simp)) fun q hq=>by rw [show K+5=K+1+4 by omega]; exact hq
theorem eJ7 {v2:yh} (hc:CS v2) {r27:Int×zy} {c44:Bs} (h44:c44.length≤100) {l45:List Bs} (h45:l45.length≤1000∧∀ x,x∈l45→x.length≤100) {v57:Bool} {c d} (hs:SB K ⟨c,d⟩) (hk:K≤80000):Ok (z0d v2 v5 l8 r21 r25 r27 c44 l45 v57 c d) (ER (K+6) v5 n R):=by
 unfold z0d
 have hfin:∀ {c76:Int} {c d},SB (K+1) ⟨c,d⟩→Ok (Zr v5 l8 r21 r25 c44 l45 c d c76) (ER (K+6) v5 n R):=fun hs=>z3t (eJ6 (K:=K+1) (n:=n) (R:=R) hv h21 hl h25 h44 h45 hs (by omega)) fun q hq=>by rw [show K+6=K+1+5 by omega]; exact hq
 have b1:=hl.1
 have b2:=hl.2.1
 refine vo (fun _ => ?_) (fun _=>hfin (hs.mono (by omega)))
 refine qf (w4s v2 (by have:=hc.nl; omega) l8 (by omega) _ _) fun r61 h61 => ?_
 obtain ⟨y,hy,_⟩:=x7q r61.1 h61.1 (by have:=h61.2; omega)
 rw [hy]
 simp only [Option.bind_some]
 refine vo (fun _ => ?_) (fun _=>vo (fun _ => ?_) (fun _=>vo (fun _ => ?_) (fun _=>hfin (hs.mono (by omega)))))
 all_goals exact qf (xw hs (by omega) _ ⟨by simp,by simp⟩) fun r66 h66=>hfin h66.2
theorem eJ3 {v2:yh} (hc:CS v2) {r27:Int×zy} {c44:Bs} (h44:c44.length≤100) {c d} (hs:SB K ⟨c,d⟩) (hk:K≤70000):Ok (z0e v2 v5 l8 r21 r25 r27 c d c44) (ER (K+7) v5 n R):=by
 unfold z0e
 have hn:=hc.nl
 refine ok_g (by omega) ?_
 refine z3v (fun (j:Nat) (q:List Bs)=>q.length≤j∧∀ x,x∈q→x.length≤100) _ 0 _ ⟨by simp,by simp⟩ ?_ ?_
 ·rintro j x q _ hx ⟨q1,q2⟩
  have hj:j < v2.Plans.length:=by have:=jj hx; omega
  unfold y5q z5y
  refine vo (fun _=>ok_g (by omega) (qa ⟨by simp; omega,fun y hy => ?_⟩)) (fun _=>qa ⟨by omega,q2⟩)
  rcases List.mem_append.1 hy with hy | hy
  ·exact q2 y hy
  ·rw [List.mem_singleton.1 hy]; exact (hc.kl x (List.mem_of_getElem? hx)).1
 ·rintro q ⟨q1,q2⟩
  unfold y5s
  have h45:q.length≤1000∧∀ x,x∈q→x.length≤100:=⟨by omega,q2⟩
  have hfin:∀ {v:Bool} {c d},SB (K+1) ⟨c,d⟩→Ok (z0d v2 v5 l8 r21 r25 r27 c44 q v c d) (ER (K+7) v5 n R):=fun hs=>z3t (eJ7 (K:=K+1) (n:=n) (R:=R) hv h21 hl h25 hc h44 h45 hs (by omega)) fun q hq=>by rw [show K+7=K+1+6 by omega]; exact hq
  refine qf (z2l hs (by omega) _ (by omega)) fun r50 h50=>vo (fun _ => ?_) (fun _=>hfin h50)
  rw [x99 v2 hc.cb]
  exact hfin h50
end
theorem w4x (l r:List zq) (p:zq→zq→Option Int) (h:l.length≤19) (hr:gIns l 0 (l.length:Int) p=some r) (hl:r.length=l.length):z4j l p=some r:=by
 unfold z4j
 have e:y3y l (l.length:Int) p=some r:=v2l l r _ h hr hl
 rw [e]
 simp only [Option.bind_some]
 rw [if_pos hl]
theorem v3o {k:Int} {s:zy} (h:SB k s) (hk:k≤10000) {c:yh} (hc:CS c) {apps:List yd} (ha:apps.length≤10∧∀ x,x∈apps→x.Key.length≤100∧x.Owner.length≤100) {n:Int} (hn:0≤n∧n≤19) :
  Ok (z44 s c apps n) fun r=>((r.1.length:Int)≤n∧∀ x,x∈r.1→EB x)∧SB (k+400) r.2:=by
 unfold z44
 refine ok_g (by omega) ?_
 refine z7v (fun (j:Nat) (q:Int×(List Int)×Int×(List zq))=>SB (k+20 * (j:Int)) ⟨q.2.1,q.2.2.1⟩∧(0≤q.1∧q.1≤2592000000 * (j:Int))∧q.2.2.2.length≤j∧∀ x,x∈q.2.2.2→EB x) _ 0 _ ⟨by simpa using h,by simp,by simp,by simp⟩ ?_ ?_
 ·rintro j ⟨v5,c6,c7,l8⟩ _ hj ⟨q1,q2,q3,q4⟩
  simp only at q1 q2 q3 q4
  have hj:j < 19:=by omega
  unfold y5r
  simp only
  refine qf (xw q1 (by omega) _ ⟨by simp,by simp⟩) fun r21 h21=>qf (Yz h21.2 (by omega) _ ⟨by simp,by simp⟩) fun r23 h23=>qf (Yz h23.2 (by omega) _ ⟨by simp,by simp⟩) fun r25 h25=>qf (z7r h25.2 (by omega) _ _ (by omega)) fun r27 h27 => ?_
  have b21:0≤r21.1∧r21.1≤2592000000:=by
   have h1:=h21.1
   have h2:=Int.tmod_nonneg 2592000000 q2.1
   have h3:=Int.tmod_lt_of_pos v5 (show (0:Int) < 2592000000 by omega)
   rw [ww (n:=2592000000 - v5.tmod 2592000000) (by omega)] at h1
   simp only [List.mem_cons,List.not_mem_nil,or_false] at h1
   omega
  have b23:r23.1.length≤100:=by
   have h1:=h23.1
   simp only [List.mem_cons,List.not_mem_nil,or_false] at h1
   rcases h1 with h1 | h1 | h1 <;> rw [h1] <;> decide
  have b25:r25.1.length≤100:=by
   have h1:=h25.1
   simp only [List.mem_cons,List.not_mem_nil,or_false] at h1
   rcases h1 with h1 | h1 | h1 <;> rw [h1] <;> decide
  have hfin:∀ {a:Bs} {c1 d1},a.length≤100→SB (k+20 * (j:Int)+6) ⟨c1,d1⟩→Ok (z0e c v5 l8 r21 r25 r27 c1 d1 a) (rd (fun (q:Int×(List Int)×Int×(List zq))=>SB (k+20 * ((j+1:Nat):Int)) ⟨q.2.1,q.2.2.1⟩∧(0≤q.1∧q.1≤2592000000 * ((j+1:Nat):Int))∧q.2.2.2.length≤j+1∧∀ x,x∈q.2.2.2→EB x) fun r=>((r.1.length:Int)≤n∧∀ x,x∈r.1→EB x)∧SB (k+400) r.2):=fun ha hs=>z3t (eJ3 (K:=k+20 * (j:Int)+6) (n:=j) (R:=fun r=>((r.1.length:Int)≤n∧∀ x,x∈r.1→EB x)∧SB (k+400) r.2) (by omega) b21 ⟨q3,by omega,q4⟩ b25 hc ha hs (by omega)) fun q hq=>by
   cases q with
   | inl q=>exact ⟨hq.1.mono (by omega),⟨hq.2.1.1,by have:=hq.2.1.2; omega⟩,hq.2.2.1,hq.2.2.2⟩
   | inr q=>exact hq
  unfold z5x
  refine vo (fun hp=>qf (z2l h27.2 (by omega) _ (by omega)) fun r31 h31=>vo (fun _ => ?_) (fun _=>hfin b23 (h31.mono (by omega)))) (fun _ => ?_)
  ·have hp:0 < apps.length:=by simpa using hp
   refine qf (z1d h31 (by omega) _ (by omega)) fun r38 h38 => ?_
   obtain ⟨y,h1,h2,_⟩:=z0h apps r38.1 ⟨h38.1.1,h38.1.2.1 (by omega)⟩
   rw [h1]
   simp only [Option.bind_some]
   exact hfin (ha.2 y h2).1 (h38.2.mono (by omega))
  ·rw [if_neg (by decide)]
   exact hfin b23 (h27.2.mono (by omega))
 ·rintro ⟨v5,c6,c7,l8⟩ ⟨q1,q2,q3,q4⟩
  simp only at q1 q2 q3 q4
  have hn8:(l8.length:Int)≤n:=by omega
  have hl:l8.length≤19:=by omega
  unfold y5t
  obtain ⟨r,p1,p2,_⟩:=v2s (p:=fun a0 a1=>Yg a0 a1) (q:=fun a0 a1=>Yg a0 a1) (f:=id) l8 (by omega) (List.pairwise_iff_getElem.2 fun i j hi hj _=>⟨_,_,y3d _ _ (q4 _ (List.getElem_mem hj)).t (q4 _ (List.getElem_mem hi)).t,y3d _ _ (q4 _ (List.getElem_mem hj)).t (q4 _ (List.getElem_mem hi)).t,Iff.rfl⟩)
  have e1:z4j l8 (fun (a0:zq) (a1:zq)=>Yg a0 a1)=some r:=w4x l8 r _ hl p2 p1.length_eq
  rw [e1]
  simp only [Option.bind_some]
  rw [if_pos p1.length_eq]
  have hr:∀ x,x∈r→EB x:=fun x hx=>q4 x (p1.mem_iff.1 hx)
  have hrl:(r.length:Int)≤n:=by rw [p1.length_eq]; exact hn8
  refine qf (z2l q1 (by omega) _ (by omega)) fun r15 h15=>vo (fun _=>qa ⟨⟨hrl,hr⟩,h15.mono (by omega)⟩) (fun _ => ?_)
  refine qf (v2v (zq.mk 0 [] [] 0 []) r _ (by omega) fun x y hx hy=>⟨_,by unfold z9o; rw [y3d x y (hr x hx).t (hr y hy).t]; rfl⟩) fun r18 h18=>qa ⟨⟨by have:=h18.1; simp only; omega,fun x hx=>hr x (h18.2 x hx)⟩,h15.mono (by omega)⟩
theorem v3p {k:Int} {s:zy} (h:SB k s) (hk:k≤10000) {c:yh} (hc:CS c) {apps:List yd} (ha:apps.length≤10∧∀ x,x∈apps→x.Key.length≤100∧x.Owner.length≤100) {n:Int} (hn:0≤n∧n≤19) :
  Ok (z44 s c apps n) fun r=>(r.1.length≤19∧∀ x,x∈r.1→EB x)∧SB (k+400) r.2:=
 z3t (v3o h hk hc ha hn) fun r hr=>⟨⟨by have:=hr.1.1; omega,hr.1.2⟩,hr.2⟩
end Go.Proofs.YtbndlmnjeofkdacGreatDoor
