/- Plain: the law TokensRevoked is true for every list of numbers. -/
import Derived.Test.YtbndlmnjeofkdabGreatDoorVbZv
import Derived.Test.YtbndlmnjeofkdabGreatDoorRng
namespace Go.Proofs.YtbndlmnjeofkdabGreatDoor
set_option linter.unusedVariables false
set_option maxRecDepth 20000
theorem z7y {α:Type} (p:Nat→α→Bool):∀ (l:List α) (k:Nat),allI p k l=true↔∀ j x,l[j]?=some x→p (k+j) x=true
 | [],k=>by simp [allI]
 | y::l,k=>by
  simp only [allI,Bool.and_eq_true,z7y p l (k+1)]
  constructor
  ·rintro ⟨h1,h2⟩ j x hj
   cases j with
   | zero=>cases hj; exact h1
   | succ j=>have:=h2 j x (by simpa using hj); rwa [show k+1+j=k+(j+1) by omega] at this
  ·intro h
   refine ⟨h 0 y rfl,fun j x hj => ?_⟩
   have:=h (j+1) x (by simpa using hj)
   rwa [show k+(j+1)=k+1+j by omega] at this
theorem z65 (a b:List Bs) (h:a.length≤1000000000):Za a b=some (decide (a=b)):=by
 unfold Za
 by_cases hl:a.length=b.length
 ·rw [if_neg (by simp [hl]),if_pos h,js (p:=fun k x=>decide (b[k]?=some x)) (e:=true) (r0:=false) rfl a 0 fun j x _ hx => ?_]
  ·have:allI (fun k x=>decide (b[k]?=some x)) 0 a=decide (a=b):=by
    rw [Bool.eq_iff_iff,z7y]
    simp only [Nat.zero_add,decide_eq_true_eq]
    constructor
    ·intro h
     apply List.ext_getElem?
     intro j
     cases hj:a[j]? with
     | some x=>rw [h j x hj]
     | none=>rw [List.getElem?_eq_none_iff] at hj; rw [eq_comm,List.getElem?_eq_none_iff]; omega
    ·rintro rfl j x hj; exact hj
   rw [this]
   cases decide (a=b) <;> rfl
  ·have hx:a[j]?=some x:=by simpa using hx
   have hj:=wg hx
   obtain ⟨y,hy⟩:∃ y,b[j]?=some y:=⟨_,List.getElem?_eq_getElem (by omega)⟩
   unfold z0f
   rw [hy]
   simp only [Option.bind_some]
   by_cases hxy:x=y
   ·simp [hxy]
   ·have:¬ y=x:=fun e=>hxy e.symm
    simp [hxy,this]
 ·have:a≠b:=fun e=>hl (by rw [e])
  rw [if_pos (by simp; omega)]
  simp [this]

structure ClB (c:yi):Prop where
 id:c.Id.length≤1000000
 subject:c.Subject.length≤1000000
 issuer:c.Issuer.length≤1000000
 parent:c.Parent.length≤1000000
 aud:Sh c.Audience
 sc:Sh c.Scopes
def z29 (c:yi):Bool:=keyP c.Id && keyP c.Subject && keyP c.Issuer && (decide (c.Parent=[]) || keyP c.Parent)
def z6b (l:List Bs) (k:Nat) (x:Bs):Bool:=decide (0 < k) && match l[k - 1]? with | some y=>Op.bytesLess x y || x == y | none=>false
def au1 (l:List Bs) (k:Nat) (x:Bs):Int:=if (!keyP x)=true then 5 else if z6b l k x=true then 7 else 0
def audF (l:List Bs):Int:=feI (au1 l) 0 l
def tlF (c:yi):Int:=if scF c.Scopes≠0 then scF c.Scopes else if c.Scopes≠lsP c.Scopes then 7 else if (decide (c.From < 0) || decide (c.To≤c.From) || decide (345686400000 < c.To))=true then 1 else 0
def clF (c:yi):Int:=if (!z29 c)=true then 5 else if 50 < c.Audience.length then 2 else if audF c.Audience≠0 then audF c.Audience else tlF c
theorem y1w (l:List Bs) (k:Nat) (h:k < l.length) (hk:0 < k):∃ y,l[k - 1]?=some y∧at? l ((k:Int) - 1)=some y:=by
 refine ⟨_,List.getElem?_eq_getElem (by omega),?_⟩
 rw [show (k:Int) - 1=((k - 1:Nat):Int) by omega,Wj,List.getElem?_eq_getElem (by omega)]
theorem z60 {α:Type} {body:Nat→α→Unit→Option (Unit ⊕ Int)} {fin:Unit→Option Int} {e:Nat→α→Int}:∀ (l:List α) (k:Nat),(∀ j x,k≤j→l[j - k]?=some x→body j x ()=if e j x≠0 then some (.inr (e j x)) else some (.inl ()))→forL body fin k l ()=if feI e k l≠0 then some (feI e k l) else fin ()
 | [],k,h=>by simp [forL,feI]
 | x::l,k,h=>by
  have h1:=h k x (Nat.le_refl _) (by simp)
  show (body k x ()).bind _=_
  rw [h1]
  by_cases h0:e k x=0
  ·simp only [h0,ne_eq,not_true_eq_false,if_false,Option.bind_some,after,feI]
   refine z60 l (k+1) fun j y hj hy=>h j y (by omega) ?_
   obtain ⟨m,hm⟩:∃ m,j - k=m+1:=⟨j - k - 1,by omega⟩
   rw [hm,List.getElem?_cons_succ]
   have:j - (k+1)=m:=by omega
   rw [this] at hy; exact hy
  ·simp [h0,feI,after]
theorem z7p (l:List Bs) (h:Sh l) (j:Nat) (x:Bs) (hx:l[j]?=some x) (J:Bool→Option (Unit ⊕ Int)) (hJ:∀ b,J b=if b=true then some (.inr 7) else some (.inl ())) :
  (if (!keyP x)=true then (some (.inr 5)) else (if decide (0 < (j:Int)) then ((at? l ((j:Int) - 1)).bind fun (x13:Bs)=>J (Op.bytesLess x x13 || x == x13)) else (J false)):Option (Unit ⊕ Int))=if au1 l j x≠0 then some (.inr (au1 l j x)) else some (.inl ()):=by
 have hj:=wg hx
 unfold au1
 cases keyP x
 ·simp
 ·simp only [Bool.not_true,Bool.false_eq_true,if_false]
  unfold z6b
  by_cases h0:0 < j
  ·obtain ⟨y,h1,h2⟩:=y1w l j hj h0
   rw [if_pos (by simpa using h0),h2,h1]
   simp only [Option.bind_some,hJ,h0,decide_true,Bool.true_and]
   cases (Op.bytesLess x y || x == y) <;> simp
  ·rw [if_neg (by simpa using h0),hJ]
   simp [h0]
theorem y47 (l:List Bs) (h:Sh l):Qh l=some (audF l):=by
 have hn:=h.1
 unfold Qh audF
 rw [if_pos (by omega),z61 (e:=au1 l) rfl l 0 fun j x _ hx => ?_]
 have hx:l[j]?=some x:=by simpa using hx
 unfold z01
 rw [uw x (by have:=h.2 x (List.mem_of_getElem? hx); omega)]
 simp only [Option.bind_some]
 exact z7p l h j x hx uo fun b=>by unfold uo; rfl
theorem y42 (c:yi) (h:ClB c):Yz c=some (clF c):=by
 have hA:=h.aud.1
 have hS:=h.sc.1
 have hJ:∀ b,vz c b=some (if b=true then 5 else if 50 < c.Audience.length then 2 else if audF c.Audience≠0 then audF c.Audience else tlF c):=by
  intro b
  unfold vz
  cases b
  ·simp only [Bool.false_eq_true,if_false]
   by_cases h1:50 < c.Audience.length
   ·rw [if_pos (by simp; omega),if_pos h1]
   ·rw [if_neg (by simp; omega),if_neg h1,y47 c.Audience h.aud,y43 c.Scopes h.sc,y1t c.Scopes h.sc]
    simp only [Option.bind_some]
    rw [z65 c.Scopes (lsP c.Scopes) (by omega)]
    simp only [Option.bind_some]
    by_cases h2:audF c.Audience=0
    ·simp only [h2,ne_eq,not_true_eq_false,decide_false,Bool.false_eq_true,if_false]
     unfold tlF
     by_cases h3:scF c.Scopes=0
     ·simp only [h3,ne_eq,not_true_eq_false,decide_false,Bool.false_eq_true,if_false]
      by_cases h4:c.Scopes=lsP c.Scopes
      ·rw [decide_eq_true h4,if_neg (by simp),if_neg (not_not_intro h4)]
       split <;> rfl
      ·rw [if_pos (by simp [h4]),if_pos h4]
     ·simp [h3]
    ·simp [h2]
  ·rfl
 unfold Yz clF z29
 rw [uw _ (by have:=h.id; omega),uw _ (by have:=h.subject; omega),uw _ (by have:=h.issuer; omega),uw _ (by have:=h.parent; omega)]
 simp only [Option.bind_some,hJ]
 cases keyP c.Id
 ·simp
 ·cases keyP c.Subject
  ·simp
  ·cases keyP c.Issuer
   ·simp
   ·by_cases hp:c.Parent=[]
    ·simp [hp]
    ·cases keyP c.Parent <;> simp [hp]
theorem y41 (c:yi) (h:ClB c):Qp c=some (clF c):=by
 have hA:=h.aud.1
 have hS:=h.sc.1
 have hE:Wa c=some (tlF c):=by
  have hl:=z58 c.Scopes
  unfold Wa tlF
  rw [y4n c.Scopes h.sc,z6a c.Scopes h.sc]
  simp only [Option.bind_some]
  rw [z65 (lsP c.Scopes) c.Scopes (by omega)]
  simp only [Option.bind_some]
  by_cases h3:scF c.Scopes=0
  ·simp only [h3,ne_eq,not_true_eq_false,decide_false,Bool.false_eq_true,if_false]
   by_cases h4:c.Scopes=lsP c.Scopes
   ·rw [decide_eq_true h4.symm,if_neg (by simp),if_neg (not_not_intro h4)]
    split <;> rfl
   ·rw [if_pos (by simp; exact fun e=>h4 e.symm),if_pos h4]
  ·simp [h3]
 have hJ:∀ b,jg c b=some (if b=true then 5 else if 50 < c.Audience.length then 2 else if audF c.Audience≠0 then audF c.Audience else tlF c):=by
  intro b
  unfold jg
  cases b
  ·simp only [Bool.false_eq_true,if_false]
   by_cases h1:50 < c.Audience.length
   ·rw [if_pos (by simp; omega),if_pos h1]
   ·rw [if_neg (by simp; omega),if_neg h1,if_pos (by omega),z60 (e:=au1 c.Audience) c.Audience 0 fun j x _ hx => ?_]
    ·rw [hE]
     show (if audF c.Audience≠0 then some (audF c.Audience) else some (tlF c))=_
     split <;> rfl
    ·have hx:c.Audience[j]?=some x:=by simpa using hx
     unfold z1a
     rw [uq x (by have:=h.aud.2 x (List.mem_of_getElem? hx); omega)]
     simp only [Option.bind_some]
     exact z7p c.Audience h.aud j x hx uz fun b=>by unfold uz; rfl
  ·rfl
 unfold Qp clF z29
 rw [uq _ (by have:=h.id; omega),uq _ (by have:=h.subject; omega),uq _ (by have:=h.issuer; omega),uq _ (by have:=h.parent; omega)]
 simp only [Option.bind_some,hJ]
 cases keyP c.Id
 ·simp
 ·cases keyP c.Subject
  ·simp
  ·cases keyP c.Issuer
   ·simp
   ·by_cases hp:c.Parent=[]
    ·simp [hp]
    ·cases keyP c.Parent <;> simp [hp]

theorem y0a {l:List Bs} (h:Sh l):Sh (lsP l):=⟨Nat.le_trans (z58 l) h.1,fun x hx=>h.2 x ((z57 l x).1 hx).1⟩
section
end
section
variable (l:List yi) (hl:l.length≤100) (hc:∀ c,c∈l→ClB c)
include hl hc
end

theorem z7q {α:Type} (l:List α) (n:Int) (h:0≤n∧n < l.length):Ok (at? l n) fun x=>x∈l:=by
 unfold at?
 rw [if_pos h.1,List.getElem?_eq_getElem (by omega)]
 exact ⟨_,rfl,List.getElem_mem _⟩
theorem kh {x:Bs} {l:List Bs} (h:x∈l) (hl:l.all fun y=>decide (y.length≤1000000)):x.length≤1000000:=by
 have:=List.all_eq_true.1 hl x h
 simpa using this
theorem z5w {x:List Bs} {l:List (List Bs)} (h:x∈l) (hl:l.all fun y=>decide (y.length≤1000000) && y.all fun z=>decide (z.length≤1000000)):Sh x:=by
 have:=List.all_eq_true.1 hl x h
 simp only [Bool.and_eq_true,decide_eq_true_eq,List.all_eq_true] at this
 exact this
theorem y0y {k:Int} {s:zm} (h:SB k s) (hk:k≤100000):Ok (Qs s) fun r=>ClB r.1∧SB (k+20) r.2:=by
 unfold Qs
 refine zz (wt h (by omega) _ ⟨by simp,by simp⟩) fun r2 h2=>zz (wt h2.2 (by omega) _ ⟨by simp,by simp⟩) fun r4 h4=>zz (wt h4.2 (by omega) _ ⟨by simp,by simp⟩) fun r6 h6=>zz (wt h6.2 (by omega) _ ⟨by simp,by simp⟩) fun r8 h8=>zz (uf h8.2 (by omega) _ (by omega)) fun r10 h10 => ?_
 refine zz (z7q _ _ ⟨h10.1.1,by have:=h10.1.2.1 (by omega); simp; omega⟩) fun x12 h12=>zz (z5m h10.2 (by omega)) fun r14 h14 => ?_
 have hsh:Sh r14.1:=⟨by have:=h14.1.1; omega,fun x hx=>by have:=h14.1.2 x hx; omega⟩
 rw [z6a r14.1 hsh]
 simp only [Option.bind_some]
 refine zz (xw h14.2 (by omega) _ ⟨by simp,by simp⟩) fun r18 h18=>zz (xw h18.2 (by omega) _ ⟨by simp,by simp⟩) fun r20 h20=>yd ⟨⟨kh h2.1 (by decide),kh h4.1 (by decide),kh h6.1 (by decide),kh h8.1 (by decide),z5w h12 (by decide),y0a hsh⟩,h20.2.mono (by omega)⟩
theorem y40 {k:Int} {s:zm} (h:SB k s) (hk:k≤10000):Ok (Qv s) fun r=>ClB r.1∧SB (k+60) r.2:=by
 unfold Qv jh
 refine zz (y0y h (by omega)) fun r2 h2=>zz (xd h2.2 (by omega) _ (by omega)) fun r4 h4=>qo (fun _ => ?_) (fun _=>yd ⟨⟨h2.1.id,h2.1.subject,h2.1.issuer,h2.1.parent,h2.1.aud,h2.1.sc⟩,h4.mono (by omega)⟩)
 have b:=h2.1
 refine zz (uf h4 (by omega) _ (by omega)) fun r7 h7=>qo (fun _ => ?_) (fun _=>qo (fun _ => ?_) (fun _=>qo (fun _ => ?_) (fun _=>qo (fun _ => ?_) (fun _ => ?_))))
 ·exact zz (wt h7.2 (by omega) _ ⟨by simp,by simp⟩) fun r10 h10=>zz (wt h10.2 (by omega) _ ⟨by simp,by simp⟩) fun r12 h12=>yd ⟨⟨kh h10.1 (by decide),kh h12.1 (by decide),b.issuer,b.parent,b.aud,b.sc⟩,h12.2.mono (by omega)⟩
 ·exact zz (wt h7.2 (by omega) _ ⟨by simp,by simp⟩) fun r10 h10=>zz (wt h10.2 (by omega) _ ⟨by simp,by simp⟩) fun r12 h12=>yd ⟨⟨b.id,b.subject,kh h10.1 (by decide),kh h12.1 (by decide),b.aud,b.sc⟩,h12.2.mono (by omega)⟩
 ·exact zz (uf h7.2 (by omega) _ (by omega)) fun r20 h20=>zz (z7q _ _ ⟨h20.1.1,by have:=h20.1.2.1 (by omega); simp; omega⟩) fun x22 h22=>yd ⟨⟨b.id,b.subject,b.issuer,b.parent,z5w h22 (by decide),b.sc⟩,h20.2.mono (by omega)⟩
 ·exact zz (y0f h7.2 (by omega)) fun r25 h25=>yd ⟨⟨b.id,b.subject,b.issuer,b.parent,b.aud,h25.1.2⟩,h25.2.mono (by omega)⟩
 ·exact zz (z0q h7.2 (by omega) _ _ (by omega)) fun r27 h27=>zz (z0q h27.2 (by omega) _ _ (by omega)) fun r29 h29=>yd ⟨⟨b.id,b.subject,b.issuer,b.parent,b.aud,b.sc⟩,h29.2.mono (by omega)⟩
section
variable {σ ρ:Type}
end
set_option linter.unusedSimpArgs false
set_option maxRecDepth 20000
set_option linter.unusedSectionVars false
set_option maxRecDepth 20000
structure CWB (c:yi):Prop where
 id:c.Id.length≤1000000
 subject:c.Subject.length≤1000000
 issuer:c.Issuer.length≤1000000
 parent:c.Parent.length≤1000000
 aud:c.Audience.length≤50∧∀ x,x∈c.Audience→x.length≤1000000
 sc:c.Scopes.length≤50∧∀ x,x∈c.Scopes→x.length≤1000000
 fr:0≤c.From∧c.From≤345686400000
 tu:0≤c.To∧c.To≤345686400000
section
variable {c:yi} (h:CWB c)
include h
end
def kd (x:Bs):Nat:=if x=[105,100] then 0 else if x=[115,117,98,106,101,99,116] then 1 else if x=[105,115,115,117,101,114] then 2 else if x=[112,97,114,101,110,116] then 3 else if x=[102,111,114] then 4 else if x=[109,97,121] then 5 else if x=[116,105,109,101] then 6 else 7
section
variable {Ls:List Bs} {e:Bool} (hn:Ls.length≤10000) (hp:∀ x,x∈Ls→x.length≤10000)
include hn hp
end
structure CSm (c:yi):Prop where
 id:c.Id.length≤10
 subject:c.Subject.length≤10
 issuer:c.Issuer.length≤10
 parent:c.Parent.length≤10
 aud:c.Audience.length≤5∧∀ x,x∈c.Audience→x.length≤1000
 sc:c.Scopes.length≤5∧∀ x,x∈c.Scopes→x.length≤1000
 fr:0≤c.From∧c.From≤1000
 tu:0≤c.To∧c.To≤1000
theorem z5v {x:Bs} {l:List Bs} (h:x∈l) (hl:l.all fun y=>decide (y.length≤10)):x.length≤10:=by
 have:=List.all_eq_true.1 hl x h
 simpa using this

structure SgB (l:List z32):Prop where
 len:l.length≤1000
 key:∀ x,x∈l→x.Id.length≤1000∧x.Secret.length≤1000
section
variable (l:List z32) (hl:SgB l) (id secret:Bs) (a long life:Int) (hid:id.length≤1000) (hse:secret.length≤1000)
include hl hid hse
end
theorem y5h {k:Int} {s:zm} (h:SB k s) (hk:k≤1000000):Ok (z55 s) fun r=>r.1.length≤1000∧SB (k+1) r.2:=by
 unfold z55 ui
 rw [if_pos (by decide)]
 simp only [Option.bind_some]
 refine zz (wt h (by omega) _ ⟨by simp,by simp⟩) fun r hr=>yd ⟨?_,hr.2⟩
 have h1:=hr.1
 simp only [List.mem_cons,List.not_mem_nil,or_false] at h1
 simp only
 rcases h1 with h1 | h1 | h1 | h1 | h1 | h1 | h1 | h1 | h1 <;> rw [h1] <;> first | decide | (rw [Lib.repeatL_length]; decide)
theorem y1d {k:Int} {s:zm} (h:SB k s) (hk:k≤1000000):Ok (Qu s) fun r=>SB (k+1) r.2:=by
 unfold Qu
 exact zz (xw h (by omega) _ ⟨by simp,by simp⟩) fun r hr=>yd hr.2
section
variable {σ ρ:Type}
end
def z1h:Nat→Nat→Bs
 | 0,_=>[]
 | n+1,m=>z1h n (m / 2)++[if m % 2=1 then 49 else 48]
theorem t24:∀ a,a < 64→z1h 6 a=z1h 2 (a / 16)++z1h 4 (a % 16):=by decide +kernel
abbrev abc:Bs:=[65,66,67,68,69,70,71,72,73,74,75,76,77,78,79,80,81,82,83,84,85,86,87,88,89,90,97,98,99,100,101,102,103,104,105,106,107,108,109,110,111,112,113,114,115,116,117,118,119,120,121,122,48,49,50,51,52,53,54,55,56,57,45,95]
def ix (c:UInt8):Int:=Lib.indexByte abc c
def hst (h:Int) (c:UInt8):Int:=IntKind.wrap .u64 ((xor_ .u64 h (IntKind.wrap .u64 (c.toNat:Int))) * 1099511628211)
theorem y1f (v:Int):ug v=some (if momP v=true then 0 else 1):=by
 unfold ug
 rw [y3m]
 simp only [Option.bind_some]
 cases momP v <;> rfl
section
variable {α:Type}
theorem y48 {l:List α} {k:Nat} (h:0 < k):at? l ((k:Int) - 1)=l[k - 1]?:=by
 unfold at?
 rw [if_pos (by omega)]
 congr 1
 omega
def chR (key:α→Bs) (g:α→Bool→Int):List α→Bs→Int
 | [],_=>0
 | x::l,last=>if g x (leB (key x) last)≠0 then g x (leB (key x) last) else chR key g l (key x)
theorem z7h {key:α→Bs} {g:α→Bool→Int} {body:Nat→α→Bs→Option (Bs ⊕ Int)} {fin:Bs→Option Int} {r:Option Int} (hf:∀ s,fin s=r):∀ (l:List α) (k:Nat) (last:Bs),(∀ j x s,x∈l→body j x s=if g x (leB (key x) s)≠0 then some (.inr (g x (leB (key x) s))) else some (.inl (key x)))→forL body fin k l last=if chR key g l last≠0 then some (chR key g l last) else r
 | [],k,last,h=>by simp [forL,chR,hf]
 | x::l,k,last,h=>by
  have h1:=h k x last (by simp)
  show (body k x last).bind _=_
  rw [h1]
  by_cases hp:g x (leB (key x) last)≠0
  ·simp [chR,hp,after]
  ·simp only [chR,hp,if_false,Option.bind_some,after]
   exact z7h hf l (k+1) (key x) fun j y s hy=>h j y s (List.mem_cons_of_mem _ hy)
def wv (key:α→Bs) (xs:List α) (k:Nat) (x:α):Bool:=decide (0 < k) && match xs[k - 1]? with | some y=>leB (key x) (key y) | none=>false
theorem z7i {key:α→Bs} {g:α→Bool→Int} (hg:∀ x,leB (key x) []=false∨∀ a b,g x a=g x b) (xs:List α) {body:Nat→α→Unit→Option (Unit ⊕ Int)} {fin:Unit→Option Int} {r:Option Int} (hf:fin ()=r):∀ (l:List α) (k:Nat) (last:Bs),(k=0∧last=[]∨0 < k∧∃ y,xs[k - 1]?=some y∧last=key y)→(∀ j,l[j]?=xs[k+j]?)→(∀ j x,xs[j]?=some x→body j x ()=if g x (wv key xs j x)≠0 then some (.inr (g x (wv key xs j x))) else some (.inl ()))→forL body fin k l ()=if chR key g l last≠0 then some (chR key g l last) else r
 | [],k,last,_,_,h=>by simp [forL,chR,hf]
 | x::l,k,last,hk,hl,h=>by
  have hx:xs[k]?=some x:=by have:=hl 0; simpa using this.symm
  have h1:=h k x hx
  have e:g x (wv key xs k x)=g x (leB (key x) last):=by
   rcases hk with ⟨rfl,rfl⟩ | ⟨h0,y,hy,rfl⟩
   ·have e2:wv key xs 0 x=false:=by simp [wv]
    rw [e2]
    rcases hg x with h3 | h3
    ·rw [h3]
    ·exact h3 _ _
   ·have e2:wv key xs k x=leB (key x) (key y):=by simp [wv,h0,hy]
    rw [e2]
  rw [e] at h1
  show (body k x ()).bind _=_
  rw [h1]
  by_cases hp:g x (leB (key x) last)≠0
  ·simp [chR,hp,after]
  ·simp only [chR,hp,if_false,Option.bind_some,after]
   refine z7i hg xs hf l (k+1) (key x) (.inr ⟨by omega,x,by simpa using hx,rfl⟩) (fun j => ?_) h
   have:=hl (j+1)
   rw [List.getElem?_cons_succ] at this
   rw [this]; congr 1; omega
theorem z7g {key:α→Bs} {g:α→Bool→Int} (hg:∀ x,g x true≠0):∀ (l:List α) (last:Bs),chR key g l last=0→(wj key l∧∀ x,x∈l→g x false=0)∧∀ x,x∈l→cmpL last (key x) < 0
 | [],last,_=>⟨⟨List.Pairwise.nil,fun x h=>by cases h⟩,fun x h=>by cases h⟩
 | x::l,last,h=>by
  simp only [chR] at h
  by_cases hc:g x (leB (key x) last)≠0
  ·rw [if_pos hc] at h; exact absurd h hc
  ·rw [if_neg hc] at h
   have hl:leB (key x) last=false:=by
    cases hq:leB (key x) last
    ·rfl
    ·rw [hq] at hc; exact absurd (hg x) hc
   rw [hl] at hc
   have h1:=y1v _ _ hl
   obtain ⟨⟨h2,h4⟩,h3⟩:=z7g hg l (key x) h
   refine ⟨⟨List.Pairwise.cons h3 h2,fun y hy => ?_⟩,fun y hy => ?_⟩
   ·rcases List.mem_cons.1 hy with rfl | hy
    ·simpa using hc
    ·exact h4 y hy
   ·rcases List.mem_cons.1 hy with rfl | hy
    ·exact h1
    ·exact ku _ _ _ h1 (h3 y hy)
end

abbrev xdL:Bs:=[48,49,50,51,52,53,54,55,56,57,97,98,99,100,101,102]
def isX (c:UInt8):Bool:=xdL.contains c
structure RvB (l:List zc):Prop where
 len:l.length≤1000
 id:∀ x,x∈l→x.Id.length≤1000
def gRv (x:zc) (late:Bool):Int:=if (!keyP x.Id)=true then 5 else if late=true then 7 else if (outP x.At 0 x.Until || decide (345686400000 < x.Until))=true then 1 else 0
def rvF (l:List zc):Int:=if 1000 < l.length then 2 else chR (fun x:zc=>x.Id) gRv l []
theorem y31 (x:zc):leB x.Id []=false∨∀ a b,gRv x a=gRv x b:=by
 cases h:keyP x.Id
 ·right; intro a b; simp [gRv,h]
 ·left; exact y1u h
theorem y4m (l:List zc) (hl:RvB l):Zc l=some (rvF l):=by
 have hn:=hl.len
 unfold Zc rvF
 by_cases h1:1000 < l.length
 ·omega
 ·rw [if_neg (by simp; omega),if_neg h1,if_pos (by omega)]
  have h:=z7h (key:=fun x:zc=>x.Id) (g:=gRv) (body:=fun k x s=>Qz k x s) (fin:=fun s=>z07 s) (r:=some 0) (fun _=>rfl) l 0 [] fun j x s hx=>by
   unfold Qz gRv
   rw [uq x.Id (by have:=hl.id x hx; omega),y3y]
   simp only [Option.bind_some,Bool.not_not]
   show (if (!keyP x.Id)=true then _ else if leB x.Id s=true then _ else _)=_
   cases keyP x.Id
   ·rfl
   ·cases leB x.Id s
    ·cases (outP x.At 0 x.Until || decide (345686400000 < x.Until)) <;> rfl
    ·rfl
  rw [h]
  by_cases h2:chR (fun x:zc=>x.Id) gRv l []=0
  ·rw [if_neg (not_not_intro h2),h2]
  ·rw [if_pos h2]
theorem z1g (l:List zc) (hl:RvB l):kj l=some (rvF l):=by
 have hn:=hl.len
 unfold kj rvF
 by_cases h1:1000 < l.length
 ·omega
 ·rw [if_neg (by simp; omega),if_neg h1,if_pos (by omega)]
  have h:=z7i (key:=fun x:zc=>x.Id) (g:=gRv) y31 l (body:=fun k x (s:Unit)=>Zy l k x) (fin:=fun (s:Unit)=>Wz) (r:=some 0) rfl l 0 [] (.inl ⟨rfl,rfl⟩) (fun j=>by rw [Nat.zero_add]) fun j x hx=>by
   have hk:=wg hx
   have hJ:∀ b,xr x b=if b=true then some (.inr 7) else if (outP x.At 0 x.Until || decide (345686400000 < x.Until))=true then some (.inr 1) else some (.inl ()):=fun b=>rfl
   unfold Zy gRv
   rw [uw x.Id (by have:=hl.id x (List.mem_of_getElem? hx); omega)]
   simp only [Option.bind_some,hJ]
   have hlate:wv (fun x:zc=>x.Id) l j x=wv (fun x:zc=>x.Id) l j x:=rfl
   cases keyP x.Id
   ·rfl
   ·simp only [Bool.not_true,Bool.false_eq_true,if_false]
    by_cases h0:0 < j
    ·obtain ⟨y,hy⟩:∃ y,l[j - 1]?=some y:=⟨_,List.getElem?_eq_getElem (by omega)⟩
     have e3:wv (fun x:zc=>x.Id) l j x=leB x.Id y.Id:=by simp [wv,h0,hy]
     have e2:decide (0 < (j:Int))=true:=by simpa using h0
     rw [e3,e2,y48 h0,hy]
     simp only [if_true,Option.bind_some]
     show (if leB x.Id y.Id=true then _ else _)=_
     cases leB x.Id y.Id
     ·cases (outP x.At 0 x.Until || decide (345686400000 < x.Until)) <;> rfl
     ·rfl
    ·have e3:wv (fun x:zc=>x.Id) l j x=false:=by simp [wv,h0]
     have e2:decide (0 < (j:Int))=false:=by simpa using h0
     rw [e3,e2]
     simp only [Bool.false_eq_true,if_false]
     cases (outP x.At 0 x.Until || decide (345686400000 < x.Until)) <;> rfl
  rw [h]
  by_cases h2:chR (fun x:zc=>x.Id) gRv l []=0
  ·rw [if_neg (not_not_intro h2),h2]
  ·rw [if_pos h2]
def smB (s:Bs):Bool:=decide (s.length=16) && s.all isX
def y45 (y x:xh):Bool:=Op.bytesLess x.App y.App || (decide (x.App=y.App) && leB x.Sum y.Sum)
structure HoB (l:List xh):Prop where
 len:l.length≤20
 key:∀ x,x∈l→x.App.length≤1000∧x.Sum.length≤1000∧Sh x.Scopes
 few:∀ x,x∈l→x.Scopes.length≤60
def y1x (l:List xh) (k:Nat) (x:xh):Bool:=decide (0 < k) && match l[k - 1]? with | some y=>y45 y x | none=>false
def ho1 (l:List xh) (k:Nat) (x:xh):Int:=
 if (!keyP x.App)=true then 5 else if (!smB x.Sum)=true then 3 else if y1x l k x=true then 7 else if scF x.Scopes≠0 then scF x.Scopes
 else if (outP x.From 0 x.To || decide (345686400000 < x.To))=true then 1 else 0
structure KeB (k:y5e):Prop where
 iss:k.Issuer.length≤1000
 aud:k.Audience.length≤1000
 sg:SgB k.Signers
 rv:RvB k.Revoked
 ho:HoB k.Holders
section
variable {α β σ τ ρ ρ':Type}
theorem z6t {body:σ→Option (σ ⊕ ρ)} {s s':σ} (h:body s=some (.inl s')):iter body s=iter body s':=by
 have key:∀ r,iter body s=some r↔iter body s'=some r:=fun r=>by
  rw [jd,jd]
  constructor
  ·rintro ⟨n,hn⟩
   cases n with
   | zero=>cases hn
   | succ n =>
    have hn:(body s).bind (after (itN body n))=some r:=hn
    rw [h] at hn
    exact ⟨n,hn⟩
  ·rintro ⟨n,hn⟩
   exact ⟨n+1,by show (body s).bind (after (itN body n))=some r; rw [h]; exact hn⟩
 cases h1:iter body s' with
 | some r=>exact (key r).2 h1
 | none =>
  cases h2:iter body s with
  | none=>rfl
  | some r=>rw [(key r).1 h2] at h1; cases h1
theorem Qy {body:σ→Option (σ ⊕ ρ)} {s:σ} {r:ρ} (h:body s=some (.inr r)):iter body s=some r:=
 jd.2 ⟨1,by show (body s).bind (after (itN body 0))=some r; rw [h]; rfl⟩
def gJ4 (i j:Int) (l:List α) (v:Bool):Option ((Int×List α) ⊕ ((Int×List α) ⊕ List α)):=
 if v then ((at? l (wr (j - 1))).bind fun (x22:α)=>(at? l j).bind fun (x24:α)=>(at? (l.set j.toNat x22) (wr (j - 1))).bind fun (x26:α)=>some (.inl (wr (j - 1),((l.set j.toNat x22).set ((wr (j - 1)).toNat) x24)))) else (Option.map .inr (some (.inl (wr (i+1),l))))
def gL3 (a:Int) (p:α→α→Option Int) (i j:Int) (l:List α):Option ((Int×List α) ⊕ ((Int×List α) ⊕ List α)):=
 if decide (a < j) then ((at? l j).bind fun (x13:α)=>(at? l (wr (j - 1))).bind fun (x15:α)=>(p x13 x15).bind fun (r17:Int)=>gJ4 i j l (decide (r17 < 0))) else (gJ4 i j l false)
noncomputable def gL1 (a b:Int) (p:α→α→Option Int) (i:Int) (l:List α):Option ((Int×List α) ⊕ List α):=
 if decide (i < b) then (iter (fun (s:Int×List α)=>gL3 a p i s.1 s.2) (i,l)) else (some (.inr l))
noncomputable def gIns (l:List α) (a b:Int) (p:α→α→Option Int):Option (List α):=iter (fun (s:Int×List α)=>gL1 a b p s.1 s.2) (wr (a+1),l)
theorem z7r (A C:List α) (x:α):at? (A++x::C) (A.length:Int)=some x:=by
 rw [Wj]; simp
theorem z82 (A C:List α) (y x:α):((A++y::x::C).set (A.length+1) y).set A.length x=A++x::y::C:=by
 induction A with
 | nil=>rfl
 | cons a A ih=>simp only [List.cons_append,List.length_cons,List.set_cons_succ,ih]
section
variable {p:α→α→Option Int} {q:β→β→Option Int} {f:α→β}
theorem y33 (i:Int) (l:List α):gL3 0 p i 0 l=some (.inr (.inl (wr (i+1),l))):=by
 unfold gL3 gJ4
 simp
theorem y34 (i:Int) (A C:List α) (y x:α) {c:Int} (hA:A.length≤1000000) (hp:p x y=some c) (hc:¬ c < 0):gL3 0 p i ((A.length+1:Nat):Int) (A++y::x::C)=some (.inr (.inl (wr (i+1),A++y::x::C))):=by
 have e1:wr (((A.length+1:Nat):Int) - 1)=(A.length:Int):=by rw [qi (by omega)]; omega
 have e2:at? (A++y::x::C) ((A.length+1:Nat):Int)=some x:=by rw [Wj]; simp
 unfold gL3 gJ4
 rw [if_pos (by simp),e1,e2,z7r]
 simp only [Option.bind_some,hp]
 rw [if_neg (by simpa using hc)]; rfl
theorem y35 (i:Int) (A C:List α) (y x:α) {c:Int} (hA:A.length≤1000000) (hp:p x y=some c) (hc:c < 0):gL3 0 p i ((A.length+1:Nat):Int) (A++y::x::C)=some (.inl ((A.length:Int),A++x::y::C)):=by
 have e1:wr (((A.length+1:Nat):Int) - 1)=(A.length:Int):=by rw [qi (by omega)]; omega
 have e2:at? (A++y::x::C) ((A.length+1:Nat):Int)=some x:=by rw [Wj]; simp
 unfold gL3 gJ4
 rw [if_pos (by simp),e1,e2,z7r]
 simp only [Option.bind_some,hp]
 rw [if_pos (by simpa using hc)]
 simp only [Int.toNat_natCast]
 have e3:at? ((A++y::x::C).set (A.length+1) y) (A.length:Int)=some y:=by
  rw [Wj,List.getElem?_set_ne (by omega)]; simp
 rw [e3]
 simp only [Option.bind_some]
 rw [z82]
end
noncomputable def gPdq (v1:List α) (v2 v3 v4:Int) (p4:α→α→Option Int):Option (List α):=
 iter (fun (s:Int×Int×Int×Bool×Bool)=>if decide ((wr (s.2.1 - s.1))≤12) then ((gIns v1 s.1 s.2.1 p4).bind fun (r12:List α)=>if r12.length=v1.length then (some (.inr r12)) else none) else (if decide (s.2.2.1=0) then none else none)) (v2,v3,v4,true,true)
theorem y32 (l r:List α) (p:α→α→Option Int) (v:Int) (h:l.length≤12) (hr:gIns l 0 (l.length:Int) p=some r) (hl:r.length=l.length):gPdq l 0 (l.length:Int) v p=some r:=by
 refine Qy ?_
 have e:wr ((l.length:Int) - 0)=(l.length:Int):=by rw [qi (by omega)]; omega
 show (if decide ((wr ((l.length:Int) - 0))≤12) then _ else _)=_
 rw [e,if_pos (by simp; omega),hr]
 simp only [Option.bind_some]
 rw [if_pos hl]
end
section
variable {α:Type} {p:α→α→Option Int}
def adjS (p:α→α→Option Int):List α→Prop
 | x::y::l=>(∃ c,p y x=some c∧¬ c < 0)∧adjS p (y::l)
 | _=>True
theorem z79:∀ (A:List α) (y x:α) (B:List α),adjS p (A++[y])→adjS p (x::B)→(∃ c,p x y=some c∧¬ c < 0)→adjS p (A++y::x::B)
 | [],y,x,B,_,h2,h3=>⟨h3,h2⟩
 | [a],y,x,B,h1,h2,h3=>⟨h1.1,h3,h2⟩
 | a::b::A,y,x,B,h1,h2,h3=>⟨h1.1,z79 (b::A) y x B h1.2 h2 h3⟩
theorem z77:∀ (A B:List α),adjS p (A++B)→adjS p A
 | [],B,_=>trivial
 | [a],B,_=>trivial
 | a::b::A,B,h=>⟨h.1,z77 (b::A) B h.2⟩
theorem z73:∀ (A B:List α),adjS p (A++B)→adjS p B
 | [],B,h=>h
 | [a],[],_=>trivial
 | [a],b::B,h=>h.2
 | a::b::A,B,h=>z73 (b::A) B h.2
def taP (p:α→α→Option Int):Prop:=(∀ u v,∃ c,p u v=some c)∧∀ u v c d,p u v=some c→p v u=some d→c < 0→¬ d < 0
theorem z78 (ta:taP p) (x:α) (B:List α) (hB:adjS p B) (h:∀ b B0,B=b::B0→∃ c,p x b=some c∧c < 0):adjS p (x::B):=by
 cases B with
 | nil=>trivial
 | cons b B0 =>
  obtain ⟨c,h1,h2⟩:=h b B0 rfl
  obtain ⟨d,h3⟩:=ta.1 b x
  exact ⟨⟨d,h3,ta.2 x b c d h1 h3 h2⟩,hB⟩
theorem y3s (ta:taP p) (i:Int) (x:α) (C:List α):∀ (n:Nat) (A B:List α),A.length=n→n≤1000000→adjS p (A++B)→(∀ b B0,B=b::B0→∃ c,p x b=some c∧c < 0) →
  ∃ A' B',A'++B'=A++B∧iter (fun (s:Int×List α)=>gL3 0 p i s.1 s.2) ((n:Int),A++x::(B++C))=some (.inl (wr (i+1),A'++x::(B'++C)))∧adjS p (A'++x::B'):=by
 intro n
 induction n with
 | zero =>
  intro A B hA _ had hB
  obtain rfl:A=[]:=List.length_eq_zero_iff.1 hA
  exact ⟨[],B,rfl,Qy (y33 i _),z78 ta x B had hB⟩
 | succ n ih =>
  intro A B hA hn had hB
  obtain ⟨A0,y,rfl⟩:∃ A0 y,A=A0++[y]:=by
   rcases List.eq_nil_or_concat A with rfl | ⟨A0,y,h⟩
   ·simp at hA
   ·exact ⟨A0,y,by simpa using h⟩
  have hA0:A0.length=n:=by simpa using hA
  obtain ⟨c,h1⟩:=ta.1 x y
  subst hA0
  have e1:(A0++[y])++x::(B++C)=A0++y::x::(B++C):=by simp
  by_cases hc:c < 0
  ·obtain ⟨A',B',q1,q2,q3⟩:=ih A0 (y::B) rfl (by omega) (by simpa using had) (fun b B0 e=>by cases e; exact ⟨c,h1,hc⟩)
   refine ⟨A',B',by rw [q1]; simp,?_,q3⟩
   rw [e1]
   exact (z6t (y35 i A0 (B++C) y x (by omega) h1 hc)).trans q2
  ·refine ⟨A0++[y],B,rfl,?_,?_⟩
   ·rw [e1]
    exact Qy (y34 i A0 (B++C) y x (by omega) h1 hc)
   ·have:=z79 A0 y x B (z77 _ B had) (z78 ta x B (z73 _ B had) hB) ⟨c,h1,hc⟩
    simpa using this
theorem z6v (ta:taP p) (m:Nat):∀ (rest pre:List α),pre.length+rest.length=m→m≤1000000→adjS p pre →
  ∃ r,r.Perm (pre++rest)∧iter (fun (s:Int×List α)=>gL1 0 (m:Int) p s.1 s.2) ((pre.length:Int),pre++rest)=some r∧adjS p r
 | [],pre,hm,_,had=>by
  refine ⟨pre++[],List.Perm.refl _,Qy ?_,by simpa using had⟩
  unfold gL1; rw [if_neg (by simp at hm; simp; omega)]
 | x::rest,pre,hm,hb,had=>by
  simp only [List.length_cons] at hm
  obtain ⟨A',B',q1,q2,q3⟩:=y3s ta (pre.length:Int) x rest pre.length pre [] rfl (by omega) (by simpa using had) (fun b B0 e=>by cases e)
  rw [List.append_nil] at q1
  rw [List.nil_append] at q2
  have hw:wr ((pre.length:Int)+1)=((pre.length+1:Nat):Int):=z8f (by omega)
  have hlen:(A'++x::B').length=pre.length+1:=by
   have:=congrArg List.length q1
   simp at this ⊢; omega
  have hperm:(A'++x::B').Perm (x::pre):=by
   rw [← q1]; exact List.perm_middle
  obtain ⟨r,r1,r2,r3⟩:=z6v ta m rest (A'++x::B') (by rw [hlen]; omega) hb q3
  have e0:A'++x::(B'++rest)=(A'++x::B')++rest:=by simp
  rw [hlen,← hw,← e0] at r2
  have hlt:decide ((pre.length:Int) < (m:Int))=true:=by simp; omega
  refine ⟨r,r1.trans ?_,?_,r3⟩
  ·refine (hperm.append_right rest).trans ?_
   exact List.perm_middle.symm
  ·refine (z6t (s':=(wr ((pre.length:Int)+1),A'++x::(B'++rest))) ?_).trans r2
   unfold gL1
   rw [if_pos hlt]
   exact q2
theorem y36 (ta:taP p) (l:List α) (h:l.length≤1000000):∃ r,r.Perm l∧gIns l 0 (l.length:Int) p=some r∧adjS p r:=by
 have hw:wr ((0:Int)+1)=1:=by decide
 unfold gIns
 rw [hw]
 cases l with
 | nil =>
  refine ⟨[],List.Perm.refl _,Qy ?_,trivial⟩
  unfold gL1; rw [if_neg (by simp)]
 | cons x l=>exact z6v ta (x::l).length l [x] (by simp only [List.length_cons,List.length_nil]; omega) h trivial
end
theorem y39 {α:Type} (f:α→Bs) (xs:List α) (key:Bs) {p:α→Bs→Option Int} (h:xs.length≤100000000) (hp:∀ x,x∈xs→p x key=some (cmpL (f x) key)) (hs:wj f xs) :
  Ok (gBin xs key p) fun r=>(0≤r.1∧r.1≤(xs.length:Int))∧(∀ (i:Nat) x,(i:Int) < r.1→xs[i]?=some x→cmpL (f x) key < 0)∧∀ (i:Nat) x,r.1≤(i:Int)→xs[i]?=some x→¬ cmpL (f x) key < 0:=by
 unfold gBin
 refine z2r (fun s:Int×Int=>0≤s.1∧s.1≤s.2∧s.2≤(xs.length:Int)∧(∀ (i:Nat) x,(i:Int) < s.1→xs[i]?=some x→cmpL (f x) key < 0)∧(∀ (i:Nat) x,s.2≤(i:Int)→xs[i]?=some x→¬ cmpL (f x) key < 0)) (fun s=>(s.2 - s.1).toNat) ?_ _ ⟨by simp,by simp,by simp,fun i x hi=>by simp at hi; omega,fun i x hi hx=>by have:=wg hx; simp at hi; omega⟩
 rintro ⟨i,j⟩ ⟨h1,h2,h3,h4,h5⟩
 simp only at h1 h2 h3 h4 h5
 refine qo (fun hc => ?_) (fun hc => ?_)
 ·have hc:i < j:=by simpa using hc
  simp only
  rw [z6x (m:=i+j) (by omega)]
  have hm:0≤(i+j) / 2∧i≤(i+j) / 2∧(i+j) / 2 < j:=by omega
  obtain ⟨x,hx⟩:∃ x,xs[((i+j) / 2).toNat]?=some x:=⟨_,List.getElem?_eq_getElem (by omega)⟩
  have e1:at? xs ((i+j) / 2)=some x:=by unfold at?; rw [if_pos hm.1]; exact hx
  rw [e1]
  simp only [Option.bind_some,hp x (List.mem_of_getElem? hx)]
  refine qo (fun hq=>yd ?_) (fun hq=>yd ?_)
  ·have hq:cmpL (f x) key < 0:=by simpa using hq
   simp only [rd]
   rw [qi (by omega)]
   refine ⟨⟨by omega,by omega,h3,fun q y hq' hy => ?_,h5⟩,by omega⟩
   by_cases he:q=((i+j) / 2).toNat
   ·subst he; rw [hx] at hy; cases hy; exact hq
   ·exact ku _ _ _ (ud hs hy hx (by omega)) hq
  ·have hq:¬ cmpL (f x) key < 0:=by simpa using hq
   simp only [rd]
   refine ⟨⟨h1,by omega,by omega,h4,fun q y hq' hy => ?_⟩,by omega⟩
   by_cases he:q=((i+j) / 2).toNat
   ·subst he; rw [hx] at hy; cases hy; exact hq
   ·intro hlt
    exact hq (ku _ _ _ (ud hs hx hy (by omega)) hlt)
 ·have hij:i=j:=by simp at hc; omega
  subst hij
  by_cases hl:i < (xs.length:Int)
  ·obtain ⟨y,hy⟩:∃ y,xs[i.toNat]?=some y:=⟨_,List.getElem?_eq_getElem (by omega)⟩
   have e1:at? xs i=some y:=by unfold at?; rw [if_pos h1]; exact hy
   have e2:decide (i < (xs.length:Int))=true:=by simpa using hl
   simp only [e2,if_true,e1,Option.bind_some,hp y (List.mem_of_getElem? hy),Option.map_some]
   exact yd ⟨⟨h1,h3⟩,h4,h5⟩
  ·have e2:decide (i < (xs.length:Int))=false:=by simpa using hl
   simp only [e2,if_false,Option.map_some,Bool.false_eq_true]
   exact yd ⟨⟨h1,h3⟩,h4,h5⟩
theorem z5l {α:Type} {f:α→Bs}:∀ {a b:List α},wj f a→wj f b→(∀ x,x∈a↔x∈b)→a=b
 | [],[],_,_,_=>rfl
 | [],y::b,_,_,h=>by have:=(h y).2 (by simp); cases this
 | x::a,[],_,_,h=>by have:=(h x).1 (by simp); cases this
 | x::a,y::b,ha,hb,h=>by
  obtain ⟨ha1,ha2⟩:=List.pairwise_cons.1 ha
  obtain ⟨hb1,hb2⟩:=List.pairwise_cons.1 hb
  have hne:∀ z:α,¬ cmpL (f z) (f z) < 0:=fun z=>by rw [(vt _ _).2 rfl]; omega
  have hxy:x=y:=by
   rcases List.mem_cons.1 ((h x).1 (by simp)) with e | hx
   ·exact e
   ·rcases List.mem_cons.1 ((h y).2 (by simp)) with e | hy
    ·exact e.symm
    ·exact absurd (ku _ _ _ (hb1 x hx) (ha1 y hy)) (hne y)
  subst hxy
  congr 1
  refine z5l ha2 hb2 fun z=>⟨fun hz => ?_,fun hz => ?_⟩
  ·rcases List.mem_cons.1 ((h z).1 (List.mem_cons_of_mem _ hz)) with e | hz'
   ·subst e; exact absurd (ha1 z hz) (hne z)
   ·exact hz'
  ·rcases List.mem_cons.1 ((h z).2 (List.mem_cons_of_mem _ hz)) with e | hz'
   ·subst e; exact absurd (hb1 z hz) (hne z)
   ·exact hz'
theorem y0w {α:Type} {f:α→Bs} (xs:List α) (y:α) (k:Nat) (hk:k≤xs.length) (hs:wj f xs) (h1:∀ (i:Nat) x,i < k→xs[i]?=some x→cmpL (f x) (f y) < 0) (h2:∀ (i:Nat) x,k≤i→xs[i]?=some x→¬ cmpL (f x) (f y) < 0) (hno:∀ x,x∈xs→f x≠f y):wj f (xs.take k++y::xs.drop k):=by
 unfold wj at hs ⊢
 have hlo:∀ x,x∈xs.take k→cmpL (f x) (f y) < 0:=fun x hx=>by
  obtain ⟨i,hi⟩:=List.getElem?_of_mem hx
  have hlt:=(List.getElem?_eq_some_iff.1 hi).1
  rw [List.length_take] at hlt
  rw [List.getElem?_take_of_lt (by omega)] at hi
  exact h1 i x (by omega) hi
 have hhi:∀ x,x∈xs.drop k→cmpL (f y) (f x) < 0:=fun x hx=>by
  obtain ⟨i,hi⟩:=List.getElem?_of_mem hx
  rw [List.getElem?_drop] at hi
  have h3:=h2 (k+i) x (by omega) hi
  have h4:cmpL (f x) (f y)≠0:=fun e=>hno x (List.mem_of_getElem? hi) ((vt _ _).1 e)
  rw [Wh (f x) (f y)]
  omega
 have hd:=hs
 rw [← List.take_append_drop k xs,List.pairwise_append] at hd
 rw [List.pairwise_append,List.pairwise_cons]
 refine ⟨hd.1,⟨fun x hx=>hhi x hx,hd.2.1⟩,fun x hx z hz => ?_⟩
 rcases List.mem_cons.1 hz with rfl | hz
 ·exact hlo x hx
 ·exact hd.2.2 x hx z hz
theorem z74 {α:Type} {f:α→Bs} {p:α→α→Option Int} (hp:∀ a b,p a b=some (cmpL (f a) (f b))):∀ (r:List α),adjS p r→(r.Pairwise fun a b=>f a≠f b)→wj f r
 | [],_,_=>List.Pairwise.nil
 | [x],_,_=>List.pairwise_singleton _ _
 | x::y::l,ha,hn=>by
  obtain ⟨⟨c,c1,c2⟩,ha2⟩:=ha
  obtain ⟨hn1,hn2⟩:=List.pairwise_cons.1 hn
  have ih:=z74 hp (y::l) ha2 hn2
  rw [hp] at c1
  cases c1
  have h3:cmpL (f y) (f x)≠0:=fun e=>hn1 y (by simp) ((vt _ _).1 e).symm
  have h4:cmpL (f x) (f y) < 0:=by rw [Wh (f y) (f x)]; omega
  refine List.pairwise_cons.2 ⟨fun z hz => ?_,ih⟩
  rcases List.mem_cons.1 hz with rfl | hz
  ·exact h4
  ·exact ku _ _ _ h4 ((List.pairwise_cons.1 ih).1 z hz)
theorem y1r:(List.range 13).all (fun n=>(Qg (IntKind.wrap .u64 (n:Int))).isSome)=true:=by decide +kernel
theorem lenR (n:Nat) (h:n≤12):∃ v,Qg (IntKind.wrap .u64 (n:Int))=some v:=by
 have h2:=List.all_eq_true.1 y1r n (by simp; omega)
 exact Option.isSome_iff_exists.1 h2
abbrev idR (x:zc):Bs:=x.Id
theorem z94 (l:List zc) (y:zc) (k:Nat) (hl:l.length≤11) (hs:wj idR l) (hno:∀ x,x∈l→x.Id≠y.Id) (hk:k≤l.length) (ht:wj idR (l.take k++y::l.drop k)) :
  Qb (l++[y]) (fun (a0:zc) (a1:zc)=>kn a0 a1)=some (l.take k++y::l.drop k):=by
 have hp:∀ a b:zc,kn a b=some (cmpL (idR a) (idR b)):=fun a b=>rfl
 have ta:taP (fun (a0:zc) (a1:zc)=>kn a0 a1):=⟨fun u v=>⟨_,hp u v⟩,fun u v c d h1 h2 h3=>by
  have h1':some (cmpL (idR u) (idR v))=some c:=(hp u v).symm.trans h1
  have h2':some (cmpL (idR v) (idR u))=some d:=(hp v u).symm.trans h2
  cases h1'; cases h2'
  rw [Wh (idR u) (idR v)]; omega⟩
 have hll:(l++[y]).length=l.length+1:=by simp
 obtain ⟨r,r1,r2,r3⟩:=y36 ta (l++[y]) (by omega)
 have hlen:=r1.length_eq
 have hd:(l++[y]).Pairwise fun a b=>idR a≠idR b:=by
  rw [List.pairwise_append]
  refine ⟨hs.imp (fun {a b} h e=>by rw [(vt _ _).2 e] at h; omega),List.pairwise_singleton _ _,fun a ha b hb => ?_⟩
  obtain rfl:b=y:=(by simpa using hb)
  exact hno a ha
 have hdr:r.Pairwise fun a b=>idR a≠idR b:=(r1.pairwise_iff (fun {a b} h e=>h e.symm)).2 hd
 have hrr:=z74 (f:=idR) hp r r3 hdr
 have e:r=l.take k++y::l.drop k:=z5l hrr ht fun x=>by
  rw [r1.mem_iff]
  simp only [List.mem_append,List.mem_cons,List.not_mem_nil,or_false]
  have hmt:x∈l↔x∈l.take k∨x∈l.drop k:=by rw [← List.mem_append,List.take_append_drop]
  rw [hmt]
  constructor
  ·rintro ((h | h) | h)
   ·exact .inl h
   ·exact .inr (.inr h)
   ·exact .inr (.inl h)
  ·rintro (h | h | h)
   ·exact .inl (.inl h)
   ·exact .inr h
   ·exact .inl (.inr h)
 rw [← e]
 obtain ⟨v,hv⟩:=lenR (l++[y]).length (by omega)
 unfold Qb
 rw [hv]
 simp only [Option.bind_some]
 have e2:z0s (l++[y]) 0 ((l++[y]).length:Int) v (fun (a0:zc) (a1:zc)=>kn a0 a1)=some r:=y32 (l++[y]) r _ v (by omega) r2 hlen
 rw [e2]
 simp only [Option.bind_some]
 rw [if_pos hlen]
theorem y0i {l:List zc} (h:rvF l=0):wj idR l:=by
 unfold rvF at h
 split at h
 ·cases h
 ·exact (z7g (fun x=>by unfold gRv; split <;> simp) l [] h).1.1
theorem y00 (l:List zc) (hl:l.length≤10) (h0:rvF l=0) (c:yi) (v:Int):∃ q:List zc×Int,ul l c v=some q∧q.1.length≤100 ∧
  ((wa l).bind fun (r13:((List zc)))=>if decide (c.To≤v) then (some (r13,(0:Int))) else ((Qf r13 c.Id (fun (a0:zc) (a1:Bs)=>ki a0 a1)).bind fun (r16:(Int×Bool))=>if r16.2 then ((at? r13 r16.1).bind fun (x19:zc)=>(at? (r13.set r16.1.toNat (zc.mk x19.Id (min x19.At v) x19.Until)) r16.1).bind fun (x21:zc)=>some (((r13.set r16.1.toNat (zc.mk x19.Id (min x19.At v) x19.Until)).set r16.1.toNat (zc.mk x21.Id x21.At (max x19.Until c.To))),0)) else (if decide (1000≤(r13.length:Int)) then (some ([],2)) else ((xz r13 r16.1 [(zc.mk c.Id v c.To)]).bind fun (r24:((List zc)))=>some (r24,0)))))=some q:=by
 have hcl:wa l=some l:=by unfold wa; rw [if_pos (by omega)]
 have hs:=y0i h0
 unfold ul
 rw [hcl]
 simp only [Option.bind_some]
 by_cases ht:c.To≤v
 ·have ht':decide (c.To≤v)=true:=by simpa using ht
  simp only [ht',if_true]
  exact ⟨_,rfl,by simp only; omega,rfl⟩
 ·have ht':decide (c.To≤v)=false:=by simpa using ht
  simp only [ht',Bool.false_eq_true,if_false]
  obtain ⟨r,b1,b2,b3⟩:=y4a idR l c.Id (p:=fun (a0:zc) (a1:Bs)=>ki a0 a1) (by omega) (fun x _=>rfl) hs
  obtain ⟨r',c1,c2,c3,c4⟩:=y39 idR l c.Id (p:=fun (a0:zc) (a1:Bs)=>ki a0 a1) (by omega) (fun x _=>rfl) hs
  rw [b1] at c1
  cases c1
  have hB:Qf l c.Id (fun (a0:zc) (a1:Bs)=>ki a0 a1)=some r:=b1
  have hI:z0u l (fun (a0:zc)=>Zd a0 c)=some (fdx (fun x:zc=>decide (x.Id=c.Id)) 0 l):=
   z3j l (p:=fun (a0:zc)=>Zd a0 c) (fun x=>decide (x.Id=c.Id)) (by omega) fun x _=>rfl
  rw [hB,hI]
  simp only [Option.bind_some]
  rw [z3m]
  cases hq:l.any fun x=>decide (x.Id=c.Id)
  ·have hq2:(l.any fun x=>decide (idR x=c.Id))=false:=hq
   rw [hq2] at b2
   rw [b2]
   simp only [Bool.false_eq_true,if_false]
   rw [if_pos (by omega),if_neg (by simp; omega)]
   have hno:∀ x,x∈l→x.Id≠(zc.mk c.Id v c.To).Id:=fun x hx=>by
    have:=List.any_eq_false.1 hq x hx
    simpa using this
   obtain ⟨k,hk⟩:∃ k:Nat,r.1=(k:Int):=⟨r.1.toNat,by omega⟩
   rw [hk] at c2 c3 c4 ⊢
   have hkl:k≤l.length:=by omega
   have hrise:=y0w (f:=idR) l (zc.mk c.Id v c.To) k hkl hs (fun i x hi hx=>c3 i x (by omega) hx) (fun i x hi hx=>c4 i x (by omega) hx) hno
   have hso:=z94 l (zc.mk c.Id v c.To) k (by omega) hs hno hkl hrise
   have hln:(l.take k++zc.mk c.Id v c.To::l.drop k).length=l.length+1:=by simp; omega
   rw [hso]
   simp only [Option.bind_some]
   rw [if_pos (by rw [hln]; simp),if_neg (by rw [hln]; simp; omega)]
   refine ⟨_,rfl,by rw [hln]; omega,?_⟩
   unfold xz
   rw [if_pos ⟨by omega,by omega,rfl,by omega⟩]
   simp
  ·have hq2:(l.any fun x=>decide (idR x=c.Id))=true:=hq
   rw [hq2] at b2
   have e1:=b3 b2
   obtain ⟨f1,x,f2,f3,f4⟩:=z3n (fun x:zc=>decide (x.Id=c.Id)) l hq
   have e1':r.1=fdx (fun x:zc=>decide (x.Id=c.Id)) 0 l:=e1
   rw [b2,e1']
   simp only [if_true]
   generalize fdx (fun x:zc=>decide (x.Id=c.Id)) 0 l=i at f1 f2 f3
   rw [f2]
   simp only [Option.bind_some]
   have hlt:=wg f3
   have h2:at? (l.set i.toNat (zc.mk x.Id (min x.At v) x.Until)) i=some (zc.mk x.Id (min x.At v) x.Until):=by
    unfold at?
    rw [if_pos f1,List.getElem?_set,if_pos rfl,if_pos hlt]
   rw [h2]
   simp only [Option.bind_some]
   exact ⟨_,rfl,by simp; omega,rfl⟩
theorem y4o (a b c:Int):kt [a,b,c]=some (or2 a (or2 b c)):=by
 unfold kt or2
 rw [if_pos (by simp)]
 simp only [forL,Wc,Wd]
 by_cases h1:a=0 <;> by_cases h2:b=0 <;> by_cases h3:c=0 <;> simp [h1,h2,h3,after]
theorem y1g (v:Int):un v=some (if momP v=true then 0 else 1):=by
 unfold un
 rw [y1e]
 simp only [Option.bind_some,z0x]
 cases momP v <;> rfl
theorem z64 (l:List zc) (h:l.length≤1000000000):Qc l l=some true:=
 y37 (fun x7 x10:zc => !((x7.Id == x10.Id) && ((x7.At == x10.At) && ((x7.Until == x10.Until) && true)))) (fun x=>by simp) l h
theorem y0z {k:Int} {s:zm} (h:SB k s) (hk:k≤100000):Ok (Qt s) fun r=>(RvB r.1∧r.1.length≤10)∧SB (k+20) r.2:=by
 unfold Qt
 refine ok_g (by simp) (z2s (fun (j:Nat) (q:(List Int)×Int×(List zc))=>SB (k+3 * (j:Int)) ⟨q.1,q.2.1⟩∧q.2.2.length≤j∧∀ x,x∈q.2.2→x.Id.length≤1000) _ 0 _ ⟨by simpa using h,by simp,by simp⟩ ?_ ?_)
 ·rintro j x ⟨c,d,l⟩ _ hx ⟨q1,q2,q3⟩
  simp only at q1 q2 q3
  have hx:([[116,48],[116,49],[116,50]]:List Bs)[j]?=some x:=by simpa using hx
  have hj:=wg hx
  have hxl:=z5v (List.mem_of_getElem? hx) (by decide)
  simp only [List.length_cons,List.length_nil] at hj
  unfold z1b Zl
  refine zz (xd q1 (by omega) _ (by omega)) fun r24 h24=>qo (fun _ => ?_) (fun _=>yd ⟨h24.mono (by omega),by simp only; omega,q3⟩)
  refine zz (xw h24 (by omega) _ ⟨by simp,by simp⟩) fun r27 h27=>zz (xw h27.2 (by omega) _ ⟨by simp,by simp⟩) fun r29 h29=>ok_g (by simp only; omega) (yd ⟨h29.2.mono (by omega),by simp; omega,fun y hy => ?_⟩)
  rcases List.mem_append.1 hy with hy | hy
  ·exact q3 y hy
  ·simp only [List.mem_singleton] at hy
   subst hy
   show x.length≤1000
   omega
 ·rintro ⟨c,d,l⟩ ⟨q1,q2,q3⟩
  simp only [List.length_cons,List.length_nil] at q1 q2 q3
  unfold z1c Zm
  refine zz (xd q1 (by omega) _ (by omega)) fun r9 h9=>qo (fun _ => ?_) (fun _=>yd ⟨⟨⟨by simp only; omega,q3⟩,by simp only; omega⟩,h9.mono (by omega)⟩)
  refine zz (wt h9 (by omega) _ ⟨by simp,by simp⟩) fun r12 h12=>zz (z0q h12.2 (by omega) _ _ (by omega)) fun r14 h14=>zz (z0q h14.2 (by omega) _ _ (by omega)) fun r16 h16=>ok_g (by simp only; omega) (yd ⟨⟨⟨by simp; omega,fun y hy => ?_⟩,by simp; omega⟩,h16.2.mono (by omega)⟩)
  rcases List.mem_append.1 hy with hy | hy
  ·exact q3 y hy
  ·simp only [List.mem_singleton] at hy
   subst hy
   show r12.1.length≤1000
   have:=z5v h12.1 (by decide)
   omega
theorem z5n {l:List zc} {s:zm} {r6:Int×zm} {r8 r10:List zc×Int} {r25 v30:Int} {v31:List zc} (h1:r8.2=v30) (h2:r8.1=v31) (h2l:v31.length≤1000000000) (h3:r10.2=r25)
  (h4:(r25=0→ko l r6.1=some r10.1)∧(r25≠0→r10.1=[])) (h4l:r10.1.length≤1000000000):Ok (xc (l,s) r6 r8 r10 r25 v30 v31) (· = true):=by
 have hfin:Ok (xb r8 r10 r25 v30 v31 r10.1) (· = true):=by
  unfold xb jr
  rw [if_pos (by simpa using h1),h2,z64 _ h2l]
  simp only [Option.bind_some,if_true]
  rw [if_pos (by simpa using h3),z64 _ h4l]
  simp only [Option.bind_some,if_true,z99]
  exact yd rfl
 unfold xc
 by_cases h0:r25=0
 ·rw [if_pos (by simpa using h0)]
  show Ok ((ko l r6.1).bind _) _
  rw [h4.1 h0]
  exact hfin
 ·rw [if_neg (by simpa using h0)]
  have:=h4.2 h0
  rw [this] at hfin
  exact hfin
theorem z8v (L:List Int):z0y L=some true:=by
 refine z2t ?_
 unfold z0y
 refine zz (y0z (k:=0) ⟨by simp,by simp⟩ (by omega)) fun r2 h2=>zz (y40 h2.2 (by omega)) fun r4 h4=>zz (y1d h4.2 (by omega)) fun r6 h6 => ?_
 obtain ⟨l,s⟩:=r2
 obtain ⟨⟨hb,hl⟩,hs⟩:=h2
 simp only at hb hl hs
 have hc:=h4.1
 generalize hm:(if momP r6.1=true then (0:Int) else 1)=mo
 have e1:ug r6.1=some mo:=by rw [y1f,hm]
 have e2:un r6.1=some mo:=by rw [y1g,hm]
 have hcl:wa l=some l:=by unfold wa; rw [if_pos (by omega)]
 have hP:∃ d:List zc,ko l r6.1=some d∧d.length≤1000∧xy l r6.1=some (if or2 (rvF l) mo≠0 then ([],or2 (rvF l) mo) else (d,0)):=by
  have hd:∀ p:zc→Option Bool,(∀ x,p x=some (decide (x.Until≤r6.1)))→Qd l p=some (l.filter fun x => !decide (x.Until≤r6.1)):=fun p hp=>z6z (zc.mk [] 0 0) l (fun x=>decide (x.Until≤r6.1)) (by omega) fun x _=>hp x
  refine ⟨l.filter fun x => !decide (x.Until≤r6.1),?_,by have:=List.length_filter_le (fun x:zc => !decide (x.Until≤r6.1)) l; omega,?_⟩
  ·unfold ko
   rw [hcl]
   simp only [Option.bind_some]
   rw [hd (fun (a0:zc)=>Qn a0 r6.1) (fun x=>rfl)]; rfl
  ·unfold xy
   rw [z1g l hb]
   simp only [Option.bind_some]
   by_cases h0:rvF l=0
   ·have e:∀ z,or2 (rvF l) z=z:=fun z=>by unfold or2; rw [if_neg (by simpa using h0)]
    rw [if_neg (by simpa using h0),e1,e]
    simp only [Option.bind_some]
    by_cases h1:mo=0
    ·rw [if_neg (by simpa using h1),if_neg (by simpa using h1),hcl]
     simp only [Option.bind_some]
     rw [hd (fun (a0:zc)=>Yw a0 r6.1) (fun x=>rfl)]; rfl
    ·rw [if_pos (by simpa using h1),if_pos h1]
   ·have e:∀ z,or2 (rvF l) z=rvF l:=fun z=>by unfold or2; rw [if_pos h0]
    rw [if_pos (by simpa using h0),e,if_pos h0]
 have hR:∃ q:List zc×Int,(or2 (rvF l) (or2 (clF r4.1) mo)=0→ul l r4.1 r6.1=some q∧q.1.length≤100)∧uh l r4.1 r6.1=some (if or2 (rvF l) (or2 (clF r4.1) mo)≠0 then ([],or2 (rvF l) (or2 (clF r4.1) mo)) else q):=by
  by_cases h0:rvF l=0
  ·obtain ⟨q,q1,q2,q3⟩:=y00 l hl h0 r4.1 r6.1
   refine ⟨q,fun _=>⟨q1,q2⟩,?_⟩
   have e:∀ z,or2 (rvF l) z=z:=fun z=>by unfold or2; rw [if_neg (by simpa using h0)]
   unfold uh
   rw [z1g l hb,e]
   simp only [Option.bind_some]
   rw [if_neg (by simpa using h0),y42 _ hc]
   simp only [Option.bind_some]
   by_cases h1:clF r4.1=0
   ·have e':∀ z,or2 (clF r4.1) z=z:=fun z=>by unfold or2; rw [if_neg (by simpa using h1)]
    rw [if_neg (by simpa using h1),e',e1]
    simp only [Option.bind_some]
    by_cases h3:mo=0
    ·have h3':decide (mo≠0)=false:=by simpa using h3
     have h3'':¬ mo≠0:=by simpa using h3
     simp only [h3',h3'',Bool.false_eq_true,if_false]
     exact q3
    ·rw [if_pos (by simpa using h3),if_pos h3]
   ·have e':∀ z,or2 (clF r4.1) z=clF r4.1:=fun z=>by unfold or2; rw [if_pos h1]
    rw [if_pos (by simpa using h1),e',if_pos h1]
  ·have e:∀ z,or2 (rvF l) z=rvF l:=fun z=>by unfold or2; rw [if_pos h0]
   refine ⟨([],0),fun h=>absurd ((e _).symm.trans h) h0,?_⟩
   unfold uh
   rw [z1g l hb,e]
   simp only [Option.bind_some]
   rw [if_pos (by simpa using h0),if_pos h0]
 obtain ⟨d,d1,d2,d3⟩:=hP
 obtain ⟨q,q1,q2⟩:=hR
 show Ok ((uh l r4.1 r6.1).bind _) _
 rw [q2]
 simp only [Option.bind_some]
 show Ok ((xy l r6.1).bind _) _
 rw [d3]
 simp only [Option.bind_some]
 show Ok ((Zc l).bind _) _
 rw [y4m l hb]
 simp only [Option.bind_some]
 show Ok ((kj l).bind _) _
 rw [z1g l hb]
 simp only [Option.bind_some]
 rw [if_neg (by simp),y41 _ hc]
 simp only [Option.bind_some,e2,y4o,y4p]
 have hp1:∀ z:Int,(if z≠0 then (([]:List zc),z) else (d,0)).2=z:=fun z=>by
  by_cases h:z=0
  ·rw [if_neg (by simpa using h),h]
  ·rw [if_pos h]
 have hp2:∀ z:Int,(if z≠0 then (([]:List zc),z) else (d,0)).1.length≤1000000000:=fun z=>by
  split
  ·simp
  ·simp only; omega
 have hp3:∀ z:Int,(z=0→ko l r6.1=some (if z≠0 then (([]:List zc),z) else (d,0)).1)∧(z≠0→(if z≠0 then (([]:List zc),z) else (d,0)).1=[]):=fun z=>⟨fun h=>by rw [if_neg (by simpa using h)]; exact d1,fun h=>by rw [if_pos h]⟩
 by_cases hz:or2 (rvF l) (or2 (clF r4.1) mo)=0
 ·obtain ⟨q3,q4⟩:=q1 hz
  rw [if_pos (by simpa using hz)]
  show Ok ((ul l r4.1 r6.1).bind _) _
  rw [q3,if_neg (by simpa using hz)]
  simp only [Option.bind_some]
  exact z5n rfl rfl (by omega) (hp1 _) (hp3 _) (hp2 _)
 ·rw [if_neg (by simpa using hz),if_pos hz]
  exact z5n rfl rfl (by simp) (hp1 _) (hp3 _) (hp2 _)
end Go.Proofs.YtbndlmnjeofkdabGreatDoor
