/- Plain: claims, delegation, chains: the program and the reference agree; the law ClaimsDelegated is true for every list of numbers. -/
import Derived.Test.YtkckjgkfljgjpaaGreatDoorVbZg
namespace Go.Proofs.YtkckjgkfljgjpaaGreatDoor
set_option linter.unusedVariables false
set_option maxRecDepth 20000
theorem x6t {α:Type} (p:Nat→α→Bool):∀ (l:List α) (k:Nat),allI p k l=true↔∀ j x,l[j]?=some x→p (k+j) x=true
 | [],k=>by simp [allI]
 | y::l,k=>by
  simp only [allI,Bool.and_eq_true,x6t p l (k+1)]
  constructor
  ·rintro ⟨h1,h2⟩ j x hj
   cases j with
   | zero=>cases hj; exact h1
   | succ j=>have:=h2 j x (by simpa using hj); rwa [show k+1+j=k+(j+1) by omega] at this
  ·intro h
   refine ⟨h 0 y rfl,fun j x hj => ?_⟩
   have:=h (j+1) x (by simpa using hj)
   rwa [show k+(j+1)=k+1+j by omega] at this
theorem x6n (a b:List Bs) (h:a.length≤1000000000):z1y a b=some (decide (a=b)):=by
 unfold z1y
 by_cases hl:a.length=b.length
 ·rw [if_neg (by simp [hl]),if_pos h,y2z (p:=fun k x=>decide (b[k]?=some x)) (e:=true) (r0:=false) rfl a 0 fun j x _ hx => ?_]
  ·have:allI (fun k x=>decide (b[k]?=some x)) 0 a=decide (a=b):=by
    rw [Bool.eq_iff_iff,x6t]
    simp only [Nat.zero_add,decide_eq_true_eq]
    constructor
    ·intro h
     apply List.ext_getElem?
     intro j
     cases hj:a[j]? with
     | some x=>rw [h j x hj]
     | none=>rw [List.getElem?_eq_none_iff] at hj; rw [eq_comm,List.getElem?_eq_none_iff]; omega
    ·rintro rfl j x hj; exact hj
   rw [this]
   cases decide (a=b) <;> rfl
  ·have hx:a[j]?=some x:=by simpa using hx
   have hj:=y2u hx
   obtain ⟨y,hy⟩:∃ y,b[j]?=some y:=⟨_,List.getElem?_eq_getElem (by omega)⟩
   unfold z5s
   rw [hy]
   simp only [Option.bind_some]
   by_cases hxy:x=y
   ·simp [hxy]
   ·have:¬ y=x:=fun e=>hxy e.symm
    simp [hxy,this]
 ·have:a≠b:=fun e=>hl (by rw [e])
  rw [if_pos (by simp; omega)]
  simp [this]

structure ClB (c:z0e):Prop where
 id:c.Id.length≤1000000
 subject:c.Subject.length≤1000000
 issuer:c.Issuer.length≤1000000
 parent:c.Parent.length≤1000000
 aud:Sh c.Audience
 sc:Sh c.Scopes
theorem x5w:Sh []:=⟨by simp,by simp⟩
theorem y14:ClB ⟨[],[],[],[],[],[],0,0⟩:=⟨by simp,by simp,by simp,by simp,x5w,x5w⟩
def w36 (c:z0e):Bool:=keyP c.Id && keyP c.Subject && keyP c.Issuer && (decide (c.Parent=[]) || keyP c.Parent)
def w5x (l:List Bs) (k:Nat) (x:Bs):Bool:=decide (0 < k) && match l[k - 1]? with | some y=>Op.bytesLess x y || x == y | none=>false
def au1 (l:List Bs) (k:Nat) (x:Bs):Int:=if (!keyP x)=true then 5 else if w5x l k x=true then 7 else 0
def audF (l:List Bs):Int:=feI (au1 l) 0 l
def tlF (c:z0e):Int:=if scF c.Scopes≠0 then scF c.Scopes else if c.Scopes≠lsP c.Scopes then 7 else if (decide (c.From < 0) || decide (c.To≤c.From) || decide (345686400000 < c.To))=true then 1 else 0
def clF (c:z0e):Int:=if (!w36 c)=true then 5 else if 50 < c.Audience.length then 2 else if audF c.Audience≠0 then audF c.Audience else tlF c
theorem w31 (l:List Bs) (k:Nat) (h:k < l.length) (hk:0 < k):∃ y,l[k - 1]?=some y∧at? l ((k:Int) - 1)=some y:=by
 refine ⟨_,List.getElem?_eq_getElem (by omega),?_⟩
 rw [show (k:Int) - 1=((k - 1:Nat):Int) by omega,x0h,List.getElem?_eq_getElem (by omega)]
theorem x6h {α:Type} {body:Nat→α→Unit→Option (Unit ⊕ Int)} {fin:Unit→Option Int} {e:Nat→α→Int}:∀ (l:List α) (k:Nat),(∀ j x,k≤j→l[j - k]?=some x→body j x ()=if e j x≠0 then some (.inr (e j x)) else some (.inl ()))→forL body fin k l ()=if feI e k l≠0 then some (feI e k l) else fin ()
 | [],k,h=>by simp [forL,feI]
 | x::l,k,h=>by
  have h1:=h k x (Nat.le_refl _) (by simp)
  show (body k x ()).bind _=_
  rw [h1]
  by_cases h0:e k x=0
  ·simp only [h0,ne_eq,not_true_eq_false,if_false,Option.bind_some,after,feI]
   refine x6h l (k+1) fun j y hj hy=>h j y (by omega) ?_
   obtain ⟨m,hm⟩:∃ m,j - k=m+1:=⟨j - k - 1,by omega⟩
   rw [hm,List.getElem?_cons_succ]
   have:j - (k+1)=m:=by omega
   rw [this] at hy; exact hy
  ·simp [h0,feI,after]
theorem w0j (l:List Bs) (h:Sh l) (j:Nat) (x:Bs) (hx:l[j]?=some x) (J:Bool→Option (Unit ⊕ Int)) (hJ:∀ b,J b=if b=true then some (.inr 7) else some (.inl ())) :
  (if (!keyP x)=true then (some (.inr 5)) else (if decide (0 < (j:Int)) then ((at? l ((j:Int) - 1)).bind fun (x13:Bs)=>J (Op.bytesLess x x13 || x == x13)) else (J false)):Option (Unit ⊕ Int))=if au1 l j x≠0 then some (.inr (au1 l j x)) else some (.inl ()):=by
 have hj:=y2u hx
 unfold au1
 cases keyP x
 ·simp
 ·simp only [Bool.not_true,Bool.false_eq_true,if_false]
  unfold w5x
  by_cases h0:0 < j
  ·obtain ⟨y,h1,h2⟩:=w31 l j hj h0
   rw [if_pos (by simpa using h0),h2,h1]
   simp only [Option.bind_some,hJ,h0,decide_true,Bool.true_and]
   cases (Op.bytesLess x y || x == y) <;> simp
  ·rw [if_neg (by simpa using h0),hJ]
   simp [h0]
theorem w4r (l:List Bs) (h:Sh l):y0j l=some (audF l):=by
 have hn:=h.1
 unfold y0j audF
 rw [if_pos (by omega),x2e (e:=au1 l) rfl l 0 fun j x _ hx => ?_]
 have hx:l[j]?=some x:=by simpa using hx
 unfold y1a
 rw [y4z x (by have:=h.2 x (List.mem_of_getElem? hx); omega)]
 simp only [Option.bind_some]
 exact w0j l h j x hx z7e fun b=>by unfold z7e; rfl
theorem w0a (c:z0e) (h:ClB c):z6q c=some (clF c):=by
 have hA:=h.aud.1
 have hS:=h.sc.1
 have hJ:∀ b,z3a c b=some (if b=true then 5 else if 50 < c.Audience.length then 2 else if audF c.Audience≠0 then audF c.Audience else tlF c):=by
  intro b
  unfold z3a
  cases b
  ·simp only [Bool.false_eq_true,if_false]
   by_cases h1:50 < c.Audience.length
   ·rw [if_pos (by simp; omega),if_pos h1]
   ·rw [if_neg (by simp; omega),if_neg h1,w4r c.Audience h.aud,w4p c.Scopes h.sc,w15 c.Scopes h.sc]
    simp only [Option.bind_some]
    rw [x6n c.Scopes (lsP c.Scopes) (by omega)]
    simp only [Option.bind_some]
    by_cases h2:audF c.Audience=0
    ·simp only [h2,ne_eq,not_true_eq_false,decide_false,Bool.false_eq_true,if_false]
     unfold tlF
     by_cases h3:scF c.Scopes=0
     ·simp only [h3,ne_eq,not_true_eq_false,decide_false,Bool.false_eq_true,if_false]
      by_cases h4:c.Scopes=lsP c.Scopes
      ·rw [decide_eq_true h4,if_neg (by simp),if_neg (not_not_intro h4)]
       split <;> rfl
      ·rw [if_pos (by simp [h4]),if_pos h4]
     ·simp [h3]
    ·simp [h2]
  ·rfl
 unfold z6q clF w36
 rw [y4z _ (by have:=h.id; omega),y4z _ (by have:=h.subject; omega),y4z _ (by have:=h.issuer; omega),y4z _ (by have:=h.parent; omega)]
 simp only [Option.bind_some,hJ]
 cases keyP c.Id
 ·simp
 ·cases keyP c.Subject
  ·simp
  ·cases keyP c.Issuer
   ·simp
   ·by_cases hp:c.Parent=[]
    ·simp [hp]
    ·cases keyP c.Parent <;> simp [hp]
theorem w2y (c:z0e) (h:ClB c):z5h c=some (clF c):=by
 have hA:=h.aud.1
 have hS:=h.sc.1
 have hE:z7h c=some (tlF c):=by
  have hl:=x47 c.Scopes
  unfold z7h tlF
  rw [x9t c.Scopes h.sc,y75 c.Scopes h.sc]
  simp only [Option.bind_some]
  rw [x6n (lsP c.Scopes) c.Scopes (by omega)]
  simp only [Option.bind_some]
  by_cases h3:scF c.Scopes=0
  ·simp only [h3,ne_eq,not_true_eq_false,decide_false,Bool.false_eq_true,if_false]
   by_cases h4:c.Scopes=lsP c.Scopes
   ·rw [decide_eq_true h4.symm,if_neg (by simp),if_neg (not_not_intro h4)]
    split <;> rfl
   ·rw [if_pos (by simp; exact fun e=>h4 e.symm),if_pos h4]
  ·simp [h3]
 have hJ:∀ b,z2f c b=some (if b=true then 5 else if 50 < c.Audience.length then 2 else if audF c.Audience≠0 then audF c.Audience else tlF c):=by
  intro b
  unfold z2f
  cases b
  ·simp only [Bool.false_eq_true,if_false]
   by_cases h1:50 < c.Audience.length
   ·rw [if_pos (by simp; omega),if_pos h1]
   ·rw [if_neg (by simp; omega),if_neg h1,if_pos (by omega),x6h (e:=au1 c.Audience) c.Audience 0 fun j x _ hx => ?_]
    ·rw [hE]
     show (if audF c.Audience≠0 then some (audF c.Audience) else some (tlF c))=_
     split <;> rfl
    ·have hx:c.Audience[j]?=some x:=by simpa using hx
     unfold z84
     rw [y8h x (by have:=h.aud.2 x (List.mem_of_getElem? hx); omega)]
     simp only [Option.bind_some]
     exact w0j c.Audience h.aud j x hx z4y fun b=>by unfold z4y; rfl
  ·rfl
 unfold z5h clF w36
 rw [y8h _ (by have:=h.id; omega),y8h _ (by have:=h.subject; omega),y8h _ (by have:=h.issuer; omega),y8h _ (by have:=h.parent; omega)]
 simp only [Option.bind_some,hJ]
 cases keyP c.Id
 ·simp
 ·cases keyP c.Subject
  ·simp
  ·cases keyP c.Issuer
   ·simp
   ·by_cases hp:c.Parent=[]
    ·simp [hp]
    ·cases keyP c.Parent <;> simp [hp]

theorem w1g {l:List Bs} (h:Sh l):Sh (lsP l):=⟨Nat.le_trans (x47 l) h.1,fun x hx=>h.2 x ((x46 l x).1 hx).1⟩
section
end
theorem w3k (c:z0e) (h:ClB c):z6y c c=some true:=by
 unfold z6y z2u
 rw [x6n _ _ (by have:=h.aud.1; omega),x6n _ _ (by have:=h.sc.1; omega)]
 simp

def ch1 (l:List z0e) (k:Nat) (x p:z0e):Int:=
 if x.Parent≠p.Id then 3 else if ((l.take k).any fun o=>decide (o.Id=x.Id))=true then 14 else if (decide (x.Issuer≠p.Issuer) || !decide (x.Audience=p.Audience))=true then 13 else if (!cvA p.Scopes x.Scopes || decide (x.From < p.From) || decide (p.To < x.To))=true then 16 else 0
section
variable (l:List z0e) (hl:l.length≤100) (hc:∀ c,c∈l→ClB c)
include hl hc
end

theorem w4s {α:Type} (l:List α) (n:Int) (h:0≤n∧n < l.length):Ok (at? l n) fun x=>x∈l:=by
 unfold at?
 rw [if_pos h.1,List.getElem?_eq_getElem (by omega)]
 exact ⟨_,rfl,List.getElem_mem _⟩
theorem y3i {x:Bs} {l:List Bs} (h:x∈l) (hl:l.all fun y=>decide (y.length≤1000000)):x.length≤1000000:=by
 have:=List.all_eq_true.1 hl x h
 simpa using this
theorem w2s {x:List Bs} {l:List (List Bs)} (h:x∈l) (hl:l.all fun y=>decide (y.length≤1000000) && y.all fun z=>decide (z.length≤1000000)):Sh x:=by
 have:=List.all_eq_true.1 hl x h
 simp only [Bool.and_eq_true,decide_eq_true_eq,List.all_eq_true] at this
 exact this
theorem x7b {k:Int} {s:z0d} (h:SB k s) (hk:k≤100000):Ok (z1v s) fun r=>ClB r.1∧SB (k+20) r.2:=by
 unfold z1v
 refine z02 (z9j h (by omega) _ ⟨by simp,by simp⟩) fun r2 h2=>z02 (z9j h2.2 (by omega) _ ⟨by simp,by simp⟩) fun r4 h4=>z02 (z9j h4.2 (by omega) _ ⟨by simp,by simp⟩) fun r6 h6=>z02 (z9j h6.2 (by omega) _ ⟨by simp,by simp⟩) fun r8 h8=>z02 (y29 h8.2 (by omega) _ (by omega)) fun r10 h10 => ?_
 refine z02 (w4s _ _ ⟨h10.1.1,by have:=h10.1.2.1 (by omega); simp; omega⟩) fun x12 h12=>z02 (y74 h10.2 (by omega)) fun r14 h14 => ?_
 have hsh:Sh r14.1:=⟨by have:=h14.1.1; omega,fun x hx=>by have:=h14.1.2 x hx; omega⟩
 rw [y75 r14.1 hsh]
 simp only [Option.bind_some]
 refine z02 (y4d h14.2 (by omega) _ ⟨by simp,by simp⟩) fun r18 h18=>z02 (y4d h18.2 (by omega) _ ⟨by simp,by simp⟩) fun r20 h20=>z1z ⟨⟨y3i h2.1 (by decide),y3i h4.1 (by decide),y3i h6.1 (by decide),y3i h8.1 (by decide),w2s h12 (by decide),w1g hsh⟩,h20.2.mono (by omega)⟩
theorem x99 {k:Int} {s:z0d} (h:SB k s) (hk:k≤10000):Ok (z62 s) fun r=>ClB r.1∧SB (k+60) r.2:=by
 unfold z62 z13
 refine z02 (x7b h (by omega)) fun r2 h2=>z02 (y4n h2.2 (by omega) _ (by omega)) fun r4 h4=>y2r (fun _ => ?_) (fun _=>z1z ⟨⟨h2.1.id,h2.1.subject,h2.1.issuer,h2.1.parent,h2.1.aud,h2.1.sc⟩,h4.mono (by omega)⟩)
 have b:=h2.1
 refine z02 (y29 h4 (by omega) _ (by omega)) fun r7 h7=>y2r (fun _ => ?_) (fun _=>y2r (fun _ => ?_) (fun _=>y2r (fun _ => ?_) (fun _=>y2r (fun _ => ?_) (fun _ => ?_))))
 ·exact z02 (z9j h7.2 (by omega) _ ⟨by simp,by simp⟩) fun r10 h10=>z02 (z9j h10.2 (by omega) _ ⟨by simp,by simp⟩) fun r12 h12=>z1z ⟨⟨y3i h10.1 (by decide),y3i h12.1 (by decide),b.issuer,b.parent,b.aud,b.sc⟩,h12.2.mono (by omega)⟩
 ·exact z02 (z9j h7.2 (by omega) _ ⟨by simp,by simp⟩) fun r10 h10=>z02 (z9j h10.2 (by omega) _ ⟨by simp,by simp⟩) fun r12 h12=>z1z ⟨⟨b.id,b.subject,y3i h10.1 (by decide),y3i h12.1 (by decide),b.aud,b.sc⟩,h12.2.mono (by omega)⟩
 ·exact z02 (y29 h7.2 (by omega) _ (by omega)) fun r20 h20=>z02 (w4s _ _ ⟨h20.1.1,by have:=h20.1.2.1 (by omega); simp; omega⟩) fun x22 h22=>z1z ⟨⟨b.id,b.subject,b.issuer,b.parent,w2s h22 (by decide),b.sc⟩,h20.2.mono (by omega)⟩
 ·exact z02 (x8t h7.2 (by omega)) fun r25 h25=>z1z ⟨⟨b.id,b.subject,b.issuer,b.parent,b.aud,h25.1.2⟩,h25.2.mono (by omega)⟩
 ·exact z02 (x57 h7.2 (by omega) _ _ (by omega)) fun r27 h27=>z02 (x57 h27.2 (by omega) _ _ (by omega)) fun r29 h29=>z1z ⟨⟨b.id,b.subject,b.issuer,b.parent,b.aud,b.sc⟩,h29.2.mono (by omega)⟩
end Go.Proofs.YtkckjgkfljgjpaaGreatDoor
