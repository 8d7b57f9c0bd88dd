/- Plain: secrets, signers. -/
import Derived.Test.YtbndlmnjeofkdadGreatDoorWoZu
namespace Go.Proofs.YtbndlmnjeofkdadGreatDoor
set_option linter.unusedVariables false
set_option maxRecDepth 20000
abbrev ddL:Bs:=[48,49,50,51,52,53,54,55,56,57]
def isD (c:UInt8):Bool:=ddL.contains c
def dv (c:UInt8):Nat:=c.toNat - 48
def dgD (n:Nat):UInt8:=UInt8.ofNat (48+n)
theorem z0l (u:Nat):Lib.decDigits u=if u < 10 then [dgD u] else Lib.decDigits (u / 10)++[dgD (u % 10)]:=by
 rw [Lib.decDigits]; rfl
theorem y41 (c:UInt8) (h:isD c=true):dgD (dv c)=c∧dv c < 10∧(dv c=0→c=48)∧48≤c.toNat∧c.toNat≤57:=by
 have:=ug (fun c => !isD c || decide (dgD (dv c)=c∧dv c < 10∧(dv c=0→c=48)∧48≤c.toNat∧c.toNat≤57)) (by decide +kernel) c
 rw [h] at this
 exact of_decide_eq_true (by simpa only [Bool.not_true,Bool.false_or] using this)
theorem z6v (n:Nat) (h:n < 10):isD (dgD n)=true∧dv (dgD n)=n∧(dgD n=48→n=0):=by
 have:∀ n,n < 10→isD (dgD n)=true∧dv (dgD n)=n∧(dgD n=48→n=0):=by decide +kernel
 exact this n h
def nvB (l:Bs):Nat:=l.foldl (fun a c=>a * 10+dv c) 0
theorem y8a (l:Bs) (c:UInt8):nvB (l++[c])=nvB l * 10+dv c:=by simp [nvB,List.foldl_append]
theorem w2e:∀ u:Nat,Lib.decDigits u=[48]∨∃ c t,Lib.decDigits u=c::t∧c≠48:=by
 intro u
 induction u using Nat.strongRecOn with
 | _ u ih =>
  rw [z0l]
  split
  ·rename_i h
   by_cases h0:dgD u=48
   ·exact .inl (by rw [h0])
   ·exact .inr ⟨_,_,rfl,h0⟩
  ·rename_i h
   rcases ih (u / 10) (by omega) with h1 | ⟨c,t,h1,h2⟩
   ·exfalso
    have h3:u / 10 < 10∧dgD (u / 10)=48:=by
     rw [z0l] at h1
     split at h1
     ·rename_i h4; exact ⟨h4,by simpa using h1⟩
     ·have:=congrArg List.length h1
      simp only [List.length_append,List.length_singleton] at this
      have h5:Lib.decDigits (u / 10 / 10)=[]:=List.length_eq_zero_iff.1 (by omega)
      rw [z0l] at h5
      split at h5 <;> simp at h5
    have:=(z6v _ h3.1).2.2 h3.2
    omega
   ·exact .inr ⟨c,t++[dgD (u % 10)],by rw [h1]; rfl,h2⟩
theorem y4z:∀ u:Nat,(Lib.decDigits u).all isD=true:=by
 intro u
 induction u using Nat.strongRecOn with
 | _ u ih =>
  rw [z0l]
  split
  ·rename_i h
   simp [(z6v u h).1]
  ·rename_i h
   rw [List.all_append,ih (u / 10) (by omega)]
   simp [(z6v (u % 10) (Nat.mod_lt _ (by decide))).1]
theorem w2d:∀ u:Nat,nvB (Lib.decDigits u)=u:=by
 intro u
 induction u using Nat.strongRecOn with
 | _ u ih =>
  rw [z0l]
  split
  ·rename_i h
   simp [nvB,(z6v u h).2.1]
  ·rename_i h
   rw [y8a,ih (u / 10) (by omega),(z6v (u % 10) (Nat.mod_lt _ (by decide))).2.1]
   omega
theorem x0o:∀ (k u:Nat),u < 10 ^ (k+1)→(Lib.decDigits u).length≤k+1:=by
 intro k
 induction k with
 | zero =>
  intro u h
  rw [z0l,if_pos (by simpa using h)]; simp
 | succ k ih =>
  intro u h
  rw [z0l]
  split
  ·simp
  ·have:u / 10 < 10 ^ (k+1):=by
    rw [Nat.div_lt_iff_lt_mul (by decide)]
    rw [Nat.pow_succ] at h; exact h
   have:=ih _ this
   simp; omega
def canD (s:Bs):Bool:=s.all isD && (decide (s=[48]) || decide (s.head?≠some 48∧s≠[]))
theorem w22 (u:Nat):canD (Lib.decDigits u)=true:=by
 unfold canD
 rw [y4z]
 rcases w2e u with h | ⟨c,t,h,hc⟩
 ·rw [h]; decide
 ·rw [h]; simp [hc]
theorem x7f:∀ (k:Nat) (s:Bs),s.all isD=true→s.length≤k→nvB s < 10 ^ k:=by
 intro k
 induction k with
 | zero=>intro s _ h; obtain rfl:s=[]:=List.length_eq_zero_iff.1 (by omega); decide
 | succ k ih =>
  intro s
  refine z8f (P:=fun s=>s.all isD=true→s.length≤k+1→nvB s < 10 ^ (k+1)) (fun _ _=>Nat.pow_pos (by decide)) (fun p d _ h1 h2 => ?_) s
  simp only [List.all_append,List.all_cons,List.all_nil,Bool.and_true,Bool.and_eq_true] at h1
  have h3:=ih p h1.1 (by simp at h2; omega)
  have h4:=(y41 d h1.2).2.1
  rw [y8a,Nat.pow_succ]
  omega
theorem atL (E:Int→Option (Int×Int)):∀ (s:Bs) (k j v:Nat),s.all isD=true→j+s.length≤18→v < 10 ^ j →
  forL (fun (k:Nat) (x:Int) (q:Int)=>z2n k x q) E k (qn s) (v:Int)=E ((s.foldl (fun a c=>a * 10+dv c) v:Nat):Int)
 | [],k,j,v,_,_,_=>rfl
 | c::s,k,j,v,h,hj,hv=>by
  simp only [List.all_cons,Bool.and_eq_true] at h
  simp only [List.length_cons] at hj
  obtain ⟨_,hd,_,hc1,hc2⟩:=y41 c h.1
  have h9:10 ^ j≤10 ^ 17:=Nat.pow_le_pow_right (by decide) (by omega)
  have e17:(10:Nat) ^ 17=100000000000000000:=by decide
  have ew:IntKind.wrap .u8 ((c.toNat:Int) - 48)=(dv c:Int):=by
   have:=ug (fun c => !isD c || decide (IntKind.wrap .u8 ((c.toNat:Int) - 48)=(dv c:Int))) (by decide +kernel) c
   rw [h.1] at this
   exact of_decide_eq_true (by simpa only [Bool.not_true,Bool.false_or] using this)
  have ei:IntKind.wrap .i64 (dv c:Int)=(dv c:Int):=qw (by omega)
  have e1:wr ((v:Int) * 10)=(v:Int) * 10:=qw (by omega)
  have e2:wr ((v:Int) * 10+(dv c:Int))=((v * 10+dv c:Nat):Int):=by rw [qw (by omega)]; omega
  show (z2n k (c.toNat:Int) (v:Int)).bind _=_
  unfold z2n
  rw [ew,if_neg (by simp; omega),ei,e1,e2]
  simp only [Option.bind_some,after]
  exact (atL E s (k+1) (j+1) (v * 10+dv c) h.2 (by omega) (by rw [Nat.pow_succ]; omega)).trans rfl
theorem atJ (s t:Bs) (ht:t.all isD=true) (hl:t.length≤17):z0h s t=z0i s (nvB t:Int):=by
 unfold z0h
 rw [if_pos (by rw [x7g]; omega)]
 exact atL (fun q=>z0i s q) t 0 0 0 ht (by omega) (by decide)
theorem d43 (c:UInt8) (h:isD c=true):(c.toNat:Int)≠45∧(c.toNat:Int)≠43:=by
 have:=(y41 c h).2.2.2
 omega
theorem w3k (t:Bs) (ht:t.all isD=true) (hne:t≠[]) (hl:t.length≤17):Ym t=some ((nvB t:Int),0):=by
 have hi:Wz t=some ((nvB t:Int),0):=by
  cases t with
  | nil=>exact absurd rfl hne
  | cons c r =>
   have hc:isD c=true:=by simp only [List.all_cons,Bool.and_eq_true] at ht; exact ht.1
   have h4:=d43 c hc
   unfold Wz
   rw [if_pos (by simp at hl ⊢; omega)]
   simp only [List.getElem?_cons_zero,Option.bind_some]
   rw [if_neg (by simpa using h4.1)]
   unfold z0g
   rw [if_neg (by simpa using h4.2),atJ _ _ ht hl]
   unfold z0i z0f
   simp only [List.getElem?_cons_zero,Option.bind_some]
   rw [if_neg (by simpa using h4.1)]
 unfold Ym
 rw [hi]; rfl
theorem w3l (t:Bs) (ht:t.all isD=true) (hne:t≠[]) (hl:t.length≤17):Ym (45::t)=some (-(nvB t:Int),0):=by
 have hln:1≤t.length:=by cases t with | nil=>exact absurd rfl hne | cons _ _=>simp
 have hv:=x7f 17 t ht hl
 have e17:(10:Nat) ^ 17=100000000000000000:=by decide
 have hi:Wz (45::t)=some (-(nvB t:Int),0):=by
  have hsub:sub? ((45:UInt8)::t) 1 (((45:UInt8)::t).length:Int)=some t:=by
   unfold sub?
   rw [if_pos (by simp only [List.length_cons]; omega),List.take_of_length_le (by simp)]; rfl
  unfold Wz
  rw [if_pos (by simp at hl ⊢; omega)]
  simp only [List.getElem?_cons_zero,Option.bind_some]
  rw [if_pos (by decide)]
  unfold z0g
  rw [if_pos rfl,hsub]
  simp only [Option.bind_some]
  rw [if_neg (by simp; omega),atJ _ _ ht hl]
  unfold z0i z0f
  simp only [List.getElem?_cons_zero,Option.bind_some]
  rw [if_pos (by decide),if_pos (by omega)]
 unfold Ym
 rw [hi]; rfl
def tlB (s:Bs):Bs:=Lib.trimPrefix s [45]
def valB (s:Bs):Int:=if s.head?=some 45 then -(nvB (tlB s):Int) else (nvB s:Int)
def okN (m:Nat) (s:Bs):Bool:=(tlB s).all isD && (decide (tlB s≠[]∧(tlB s).length≤m) && decide ((tlB s).head?≠some 48∨s=[48]))
theorem y1z (c:UInt8) (r:Bs):tlB (c::r)=if c=45 then r else c::r:=by
 unfold tlB Lib.trimPrefix Lib.hasPrefix
 by_cases h:c=45
 ·subst h; simp [List.isPrefixOf]
 ·have:((45:UInt8) == c)=false:=by simpa using fun e:(45:UInt8)=c=>h e.symm
  simp [List.isPrefixOf,this,h]
theorem x1w (r:Bs):valB (45::r)=-(nvB r:Int):=by simp [valB,y1z]
theorem x1v (c:UInt8) (r:Bs) (h:c≠45):valB (c::r)=(nvB (c::r):Int):=by simp [valB,h]
theorem w3j (s:Bs) (ht:(tlB s).all isD=true) (hne:tlB s≠[]) (hl:(tlB s).length≤17):Ym s=some (valB s,0):=by
 cases s with
 | nil=>exact absurd rfl hne
 | cons c r =>
  rw [y1z] at ht hne hl
  by_cases h:c=45
  ·subst h
   rw [if_pos rfl] at ht hne hl
   rw [x1w]
   exact w3l r ht hne hl
  ·rw [if_neg h] at ht hne hl
   rw [x1v c r h]
   exact w3k (c::r) ht hne hl
theorem x0e {α ρ:Type} {body:Nat→α→Unit→Option (Unit ⊕ ρ)} {fin:Unit→Option ρ} {p:α→Bool} {r0:ρ} (h:∀ j x,body j x ()=if p x then some (.inl ()) else some (.inr r0)):∀ (l:List α) (k:Nat),l.all p=false→forL body fin k l ()=some r0
 | [],k,hl=>by cases hl
 | x::l,k,hl=>by
  show (body k x ()).bind _=_
  rw [h k x]
  cases hp:p x
  ·simp [after]
  ·rw [List.all_cons,hp,Bool.true_and] at hl
   simp only [if_true,Option.bind_some,after]
   exact x0e h l (k+1) hl
theorem y6n (s:Bs):(tlB s).length≤s.length:=by
 unfold tlB Lib.trimPrefix
 split
 ·simp
 ·exact Nat.le_refl _
theorem y3r (s:Bs) (m:Nat) (hm:m≤17) (hs:s.length≤1000000):xf s (m:Int)=some (if okN m s then valB s else 0,okN m s):=by
 have hJ:ki s (tlB s) true=some (0,false):=rfl
 have htl:=y6n s
 have hb:∀ (j:Nat) (x:UInt8),z6a j x=if isD x then some (.inl ()) else some (.inr (0,false)):=fun j x=>by
  have:=ug (fun x=>decide (z6a 0 x=if isD x then some (.inl ()) else some (.inr (0,false)))) (by decide +kernel) x
  exact of_decide_eq_true this
 unfold xf z9a
 simp only [Option.bind_some]
 show (if decide (tlB s=[]) then ki s (tlB s) true else if decide ((m:Int) < ((tlB s).length:Int)) then ki s (tlB s) true else ((tlB s)[0]?).bind fun x9=>if decide ((x9.toNat:Int)=48) then ki s (tlB s) (decide (s≠[48])) else ki s (tlB s) false)=_
 by_cases h0:tlB s=[]
 ·rw [if_pos (by simpa using h0),hJ]
  have:okN m s=false:=by unfold okN; rw [h0]; simp
  rw [this]; rfl
 rw [if_neg (by simpa using h0)]
 by_cases hl:m < (tlB s).length
 ·rw [if_pos (by simp; omega),hJ]
  have:okN m s=false:=by
   unfold okN
   rw [show decide (tlB s≠[]∧(tlB s).length≤m)=false from by simp; intro; omega]
   simp
  rw [this]; rfl
 rw [if_neg (by simp; omega)]
 have hlm:decide (tlB s≠[]∧(tlB s).length≤m)=true:=by simp only [decide_eq_true_eq]; exact ⟨h0,by omega⟩
 have hall:ki s (tlB s) false=some (if (tlB s).all isD then valB s else 0,(tlB s).all isD):=by
  unfold ki
  rw [if_neg (by simp),if_pos (by omega)]
  cases hd:(tlB s).all isD
  ·exact x0e (p:=isD) hb (tlB s) 0 hd
  ·have hf:z2e s=some (valB s,true):=by
    unfold z2e
    rw [w3j s hd h0 (by omega)]; rfl
   rw [xk (fin:=fun (s_1:Unit)=>z2e s) (e:=(valB s,true)) (p:=fun _ c=>isD c) (r0:=(0,false)) hf (tlB s) 0 (fun j x _ _=>hb j x),z29,hd]
   rfl
 cases hc:tlB s with
 | nil=>exact absurd hc h0
 | cons c r =>
  rw [hc] at hall hlm h0
  simp only [List.getElem?_cons_zero,Option.bind_some]
  have hok:okN m s=((c::r).all isD && decide ((c::r).head?≠some 48∨s=[48])):=by
   unfold okN
   rw [hc,hlm]; simp
  by_cases h48:c=48
  ·rw [if_pos (by rw [h48]; decide)]
   by_cases hs48:s=[48]
   ·rw [show decide (s≠[48])=false from by simpa using hs48,hall,hok]
    simp [hs48]
   ·rw [show decide (s≠[48])=true from by simpa using hs48]
    have:okN m s=false:=by rw [hok]; simp [h48,hs48]
    rw [this]; rfl
  ·have hcn:¬ ((c.toNat:Int)=48):=fun h=>h48 (UInt8.toNat_inj.1 (by simp; omega))
   rw [if_neg (by simpa using hcn),hall,hok]
   simp [h48]
theorem x7d (n:Nat) (h:n≤1000000000000000):okN 16 (Lib.itoa (n:Int))=true∧valB (Lib.itoa (n:Int))=(n:Int):=by
 have e:Lib.itoa (n:Int)=Lib.decDigits n:=by unfold Lib.itoa; rw [if_neg (by omega)]; simp
 have hc:=w22 n
 have hl:(Lib.decDigits n).length≤16:=x0o 15 n (Nat.lt_of_le_of_lt h (by decide))
 have hd:=y4z n
 have hv:=w2d n
 rw [e]
 have ht:tlB (Lib.decDigits n)=Lib.decDigits n∧(Lib.decDigits n).head?≠some 45∧Lib.decDigits n≠[]:=by
  cases hq:Lib.decDigits n with
  | nil=>rw [hq] at hc; simp [canD] at hc
  | cons c r =>
   rw [hq] at hd
   simp only [List.all_cons,Bool.and_eq_true] at hd
   have hc45:c≠45:=fun h=>by have:=hd.1; rw [h] at this; revert this; decide
   rw [y1z,if_neg hc45]
   exact ⟨rfl,by simpa using hc45,by simp⟩
 constructor
 ·unfold okN
  rw [ht.1,hd]
  unfold canD at hc
  rw [hd] at hc
  simp only [Bool.true_and,Bool.or_eq_true,decide_eq_true_eq] at hc
  simp only [Bool.true_and,Bool.and_eq_true,decide_eq_true_eq]
  refine ⟨⟨ht.2.2,hl⟩,?_⟩
  rcases hc with h1 | h1
  ·exact .inr h1
  ·exact .inl h1.1
 ·unfold valB
  rw [if_neg ht.2.1,hv]
set_option linter.unusedSimpArgs false
set_option maxRecDepth 20000
theorem splN (c:UInt8):∀ s:Bs,c ∉ s→spl c s=[s]
 | [],_=>rfl
 | x::s,h=>by
  have h1:x≠c:=fun e=>h (by simp [e])
  have h2:=splN c s (fun e=>h (by simp [e]))
  unfold spl
  rw [if_neg h1,h2]
theorem splA (c:UInt8) (q:Bs):∀ p:Bs,c ∉ p→spl c (p++c::q)=p::spl c q
 | [],_=>by
  rw [List.nil_append]
  conv=>lhs; unfold spl
  rw [if_pos rfl]
 | x::p,h=>by
  have h1:x≠c:=fun e=>h (by simp [e])
  have h2:=splA c q p (fun e=>h (by simp [e]))
  rw [List.cons_append]
  conv=>lhs; unfold spl
  rw [if_neg h1,h2]
theorem y0g {c:UInt8}:∀ {s:Bs},c∈s→∃ p q,s=p++c::q∧c ∉ p
 | x::s,h=>by
  by_cases h1:c=x
  ·subst h1; exact ⟨[],s,rfl,by simp⟩
  ·obtain ⟨p,q,h2,h3⟩:=y0g (s:=s) (by simpa [h1] using h)
   exact ⟨x::p,q,by rw [h2]; rfl,by simp [h1,h3]⟩
theorem w1e (l:List Bs) (h:l.length≤1000000000):Ws l []=some (l.any fun x=>decide ([]=x)):=
 y4s (p:=fun x=>some (decide ([]=x))) l _ h fun x _=>rfl
theorem y19 (s:Bs) (c:UInt8) (h:s.length≤1000000):jj s [c]=some (spl c s):=by
 unfold jj
 rw [if_pos ⟨by omega,by simp⟩,z38]
def lnS (t:Bs):List Bs×Bool:=if (spl 10 t).getLast?=some [] then ((spl 10 t).dropLast,true) else (spl 10 t,false)
theorem x7u (t:Bs) (hl:t.length≤1000000):z5r t=some (lnS t):=by
 unfold z5r lnS
 rw [y19 t 10 hl]
 simp only [Option.bind_some]
 have hw:=Yc 10 t
 have hn:=y68 10 t
 generalize spl 10 t=w at hw hn
 obtain ⟨l,p,hlp⟩:∃ l p,w=l++[p]:=⟨w.dropLast,w.getLast hn,(List.dropLast_concat_getLast hn).symm⟩
 subst hlp
 simp only [List.length_append,List.length_cons,List.length_nil] at hw
 have e1:wr (((l++[p]).length:Int) - 1)=(l.length:Int):=by
  simp only [List.length_append,List.length_cons,List.length_nil]
  rw [qw (by omega)]
  omega
 have e2:at? (l++[p]) (l.length:Int)=some p:=by
  unfold at?
  rw [if_pos (by omega)]
  simp
 rw [e1,e2]
 simp only [Option.bind_some]
 by_cases hpe:p=[]
 ·subst hpe
  rw [if_pos (by simp),y12 _ _ (by simp),if_pos (by simp)]
  simp
 ·rw [if_neg (by simpa using hpe),if_neg (by simpa using hpe)]
theorem x1p (s:Bs) (hl:s.length≤1000000):z5o s=some (spl 32 s,!(spl 32 s).any fun x=>decide ([]=x)):=by
 unfold z5o
 rw [y19 s 32 hl]
 simp only [Option.bind_some]
 rw [w1e _ (by have:=Yc 32 s; omega)]
 rfl
set_option linter.unusedSectionVars false
set_option maxRecDepth 20000
theorem z0c (n:Int) (h:0≤n∧n≤345686400000):(Lib.itoa n).length≤15∧z5g n=some (Lib.itoa n):=by
 refine ⟨?_,by unfold z5g; rw [if_pos (by omega)]⟩
 obtain ⟨u,rfl⟩:=Int.eq_ofNat_of_zero_le h.1
 have h1:=x0o 14 u (by omega)
 have h2:Lib.itoa (u:Int)=Lib.decDigits u:=by
  unfold Lib.itoa
  simp
 rw [h2]; omega
structure CWB (c:zm):Prop where
 id:c.Id.length≤1000000
 subject:c.Subject.length≤1000000
 issuer:c.Issuer.length≤1000000
 parent:c.Parent.length≤1000000
 aud:c.Audience.length≤50∧∀ x,x∈c.Audience→x.length≤1000000
 sc:c.Scopes.length≤50∧∀ x,x∈c.Scopes→x.length≤1000000
 fr:0≤c.From∧c.From≤345686400000
 tu:0≤c.To∧c.To≤345686400000
theorem w2y {c:zm} (h:ClB c) (h0:clF c=0):CWB c:=by
 unfold clF at h0
 split at h0
 ·simp at h0
 ·split at h0
  ·simp at h0
  ·rename_i ha
   split at h0
   ·rename_i h1; exact absurd h0 h1
   ·unfold tlF at h0
    split at h0
    ·rename_i h1; exact absurd h0 h1
    ·rename_i h1
     split at h0
     ·simp at h0
     ·split at h0
      ·simp at h0
      ·rename_i h3
       simp only [Bool.or_eq_true,decide_eq_true_eq] at h3
       have h1':=x5v (show scF c.Scopes=0 by simpa using h1)
       refine ⟨h.id,h.subject,h.issuer,h.parent,⟨by omega,h.aud.2⟩,⟨h1'.1,h.sc.2⟩,by omega,by omega⟩
def lnC (c:zm):List Bs:=
 [[105,100,32]++c.Id,[115,117,98,106,101,99,116,32]++c.Subject,[105,115,115,117,101,114,32]++c.Issuer]++(if c.Parent≠[] then [[112,97,114,101,110,116,32]++c.Parent] else []) ++
 (if 0 < c.Audience.length then [[102,111,114,32]++Lib.join c.Audience [32]] else [])++(if 0 < c.Scopes.length then [[109,97,121,32]++Lib.join c.Scopes [32]] else [])++[(([116,105,109,101,32]++Lib.itoa c.From)++[32])++Lib.itoa c.To]
def txC (c:zm):Bs:=(lnC c).flatMap (· ++ [10])
section
variable {c:zm} (h:CWB c)
include h
theorem audJ:(Lib.join c.Audience [32]).length≤50000050∧ua c.Audience [32]=some (Lib.join c.Audience [32]):=by
 have h1:=y4b 1000000 [32] c.Audience h.aud.2
 have h2:=h.aud.1
 have h3:c.Audience.length * (1000000+([32]:Bs).length)≤50 * 1000001:=Nat.mul_le_mul h2 (by simp)
 refine ⟨by omega,?_⟩
 unfold ua
 rw [if_pos ⟨by omega,by omega⟩]
theorem scJ:(Lib.join c.Scopes [32]).length≤50000050∧ua c.Scopes [32]=some (Lib.join c.Scopes [32]):=by
 have h1:=y4b 1000000 [32] c.Scopes h.sc.2
 have h2:=h.sc.1
 have h3:c.Scopes.length * (1000000+([32]:Bs).length)≤50 * 1000001:=Nat.mul_le_mul h2 (by simp)
 refine ⟨by omega,?_⟩
 unfold ua
 rw [if_pos ⟨by omega,by omega⟩]
theorem x3w (v:Bs) (hv:v.length≤200000000):xv c v=some (if 4000 < (v++(((([116,105,109,101,32]++Lib.itoa c.From)++[32])++Lib.itoa c.To)++[10])).length then ([],2) else (v++(((([116,105,109,101,32]++Lib.itoa c.From)++[32])++Lib.itoa c.To)++[10]),0)):=by
 obtain ⟨f1,f2⟩:=z0c c.From h.fr
 obtain ⟨t1,t2⟩:=z0c c.To h.tu
 unfold xv
 rw [f2,t2]
 simp only [Option.bind_some]
 rw [if_pos (by simp; omega),if_pos (by simp; omega),if_pos (by simp; omega),if_pos (by simp; omega),if_pos (by simp; omega)]
 by_cases hl:4000 < (v++(((([116,105,109,101,32]++Lib.itoa c.From)++[32])++Lib.itoa c.To)++[10])).length
 ·rw [if_pos hl,if_pos (decide_eq_true (by omega))]
 ·rw [if_neg hl,if_neg (by intro hh; exact hl (by have:=of_decide_eq_true hh; omega))]
def mayL (c:zm):Bs:=if 0 < c.Scopes.length then ([109,97,121,32]++Lib.join c.Scopes [32])++[10] else []
def Zo (c:zm):Bs:=if 0 < c.Audience.length then ([102,111,114,32]++Lib.join c.Audience [32])++[10] else []
def parL (c:zm):Bs:=if c.Parent≠[] then ([112,97,114,101,110,116,32]++c.Parent)++[10] else []
theorem x3x (v:Bs):v.length≤120000000→Qo c v=xv c (v++mayL c):=by
 intro hv
 unfold Qo mayL
 by_cases h0:0 < c.Scopes.length
 ·obtain ⟨f1,f2⟩:=scJ h
  rw [if_pos (by simpa using h0),f2,if_pos h0]
  simp only [Option.bind_some]
  rw [if_pos (by simp; omega),if_pos (by simp; omega),if_pos (by simp; omega)]
 ·rw [if_neg (by simpa using h0),if_neg h0,List.append_nil]
theorem y8k:(mayL c).length≤50000060:=by
 unfold mayL
 split
 ·have:=(scJ h).1; simp; omega
 ·simp
theorem y4t:(Zo c).length≤50000060:=by
 unfold Zo
 split
 ·have:=(audJ h).1; simp; omega
 ·simp
theorem x3y (v:Bs):v.length≤60000000→Yb c v=xv c (v++Zo c++mayL c):=by
 intro hv
 have hfl:=y4t h
 rw [← x3x h (v++Zo c) (by simp; omega)]
 unfold Yb Zo
 by_cases h0:0 < c.Audience.length
 ·obtain ⟨f1,f2⟩:=audJ h
  rw [if_pos (by simpa using h0),f2,if_pos h0]
  simp only [Option.bind_some]
  rw [if_pos (by simp; omega),if_pos (by simp; omega),if_pos (by simp; omega)]
 ·rw [if_neg (by simpa using h0),if_neg h0,List.append_nil]
def hdC (c:zm):Bs:=((((([105,100,32]++c.Id)++[10,115,117,98,106,101,99,116,32])++c.Subject)++[10,105,115,115,117,101,114,32])++c.Issuer)++[10]
theorem y1p:txC c=hdC c++parL c++Zo c++mayL c++(((([116,105,109,101,32]++Lib.itoa c.From)++[32])++Lib.itoa c.To)++[10]):=by
 unfold txC lnC hdC parL Zo mayL
 by_cases h1:c.Parent=[] <;> by_cases h2:0 < c.Audience.length <;> by_cases h3:0 < c.Scopes.length <;> simp [h1,h2,h3]
theorem w32:(txC c).length≤200000000:=by
 have h1:=y8k h
 have h2:=y4t h
 have h3:(parL c).length≤1000010:=by
  unfold parL
  have:=h.parent
  split
  ·simp; omega
  ·simp
 have h4:=(z0c c.From h.fr).1
 have h5:=(z0c c.To h.tu).1
 have a1:=h.id; have a2:=h.subject; have a3:=h.issuer
 rw [y1p h]
 unfold hdC
 simp; omega
theorem x3u (h0:clF c=0) (hc:ClB c):Yg c=some (if 4000 < (txC c).length then ([],2) else (txC c,0)):=by
 have a1:=h.id; have a2:=h.subject; have a3:=h.issuer; have a4:=h.parent
 unfold Yg
 rw [z6x c hc,h0]
 simp only [Option.bind_some]
 rw [if_neg (by simp),if_pos (by simp; omega),if_pos (by simp; omega),if_pos (by simp; omega),if_pos (by simp; omega),if_pos (by simp; omega),if_pos (by simp; omega)]
 have hd:(hdC c).length≤3000030:=by unfold hdC; simp; omega
 have hp:(parL c).length≤1000010:=by
  unfold parL
  split
  ·simp; omega
  ·simp
 have hm:=y8k h
 have hf:=y4t h
 have fin:Yb c (hdC c++parL c)=some (if 4000 < (txC c).length then ([],2) else (txC c,0)):=by
  rw [x3y h _ (by simp; omega),x3w h _ (by simp; omega),y1p h]
 by_cases hpar:c.Parent=[]
 ·rw [if_neg (by simpa using hpar)]
  have e:parL c=[]:=by unfold parL; rw [if_neg (not_not_intro hpar)]
  rw [e,List.append_nil] at fin
  exact fin
 ·rw [if_pos (by simpa using hpar),if_pos (by simp; omega),if_pos (by simp; omega),if_pos (by simp; omega)]
  have e:parL c=([112,97,114,101,110,116,32]++c.Parent)++[10]:=by unfold parL; rw [if_pos hpar]
  rw [e] at fin
  exact fin
end
theorem x3v (c:zm) (h:ClB c):Yg c=some (if clF c≠0 then ([],clF c) else if 4000 < (txC c).length then ([],2) else (txC c,0)):=by
 by_cases h0:clF c=0
 ·rw [x3u (w2y h h0) h0 h,if_neg (not_not_intro h0)]
 ·unfold Yg
  rw [z6x c h]
  simp only [Option.bind_some]
  rw [if_pos (by simpa using h0),if_pos h0]
def kdL:List Bs:=[[105,100],[115,117,98,106,101,99,116],[105,115,115,117,101,114],[112,97,114,101,110,116],[102,111,114],[109,97,121],[116,105,109,101]]
def kd (x:Bs):Nat:=if x=[105,100] then 0 else if x=[115,117,98,106,101,99,116] then 1 else if x=[105,115,115,117,101,114] then 2 else if x=[112,97,114,101,110,116] then 3 else if x=[102,111,114] then 4 else if x=[109,97,121] then 5 else if x=[116,105,109,101] then 6 else 7
theorem y3u (x:Bs):kd x≤7:=by
 unfold kd
 repeat' split
 all_goals omega
theorem y3v (x:Bs) (k:Nat) (hk:k < 7):kd x=k↔x=kdL.getD k []:=by
 have hc:k=0∨k=1∨k=2∨k=3∨k=4∨k=5∨k=6:=by omega
 constructor
 ·intro h
  unfold kd at h
  repeat' (split at h)
  all_goals (subst h; try omega)
  all_goals (first | assumption | (exfalso; omega))
 ·intro h
  subst h
  rcases hc with rfl | rfl | rfl | rfl | rfl | rfl | rfl <;> decide
def optB (m:Nat):Bool:=m == 3 || m == 4 || m == 5
def skB (k j:Nat):Bool:=(List.range 7).all fun m=>decide (m < k) || decide (j≤m) || optB m
def okK (k j:Nat):Bool:=decide (j < 7) && decide (k≤j) && skB k j
theorem x69:∀ k:Fin 8,∀ j:Fin 8,optB k.1=true→j.1≠k.1→okK k.1 j.1=okK (k.1+1) j.1:=by decide
theorem x7c:∀ k:Fin 8,∀ j:Fin 8,optB k.1=false→j.1≠k.1→okK k.1 j.1=false:=by decide
theorem x7b:∀ k:Fin 7,okK k.1 k.1=true:=by decide
theorem x7a:∀ j:Fin 8,okK 7 j.1=false:=by decide
def qm (x:Bs):Bs:=(spl 32 x).headD []
def wj (x:Bs):List Bs:=if 32∈x then (spl 32 x).tail else [[]]
theorem Yv {x:Bs} (h:32∈x):spl 32 x=qm x::wj x∧wj x≠[]:=by
 obtain ⟨p,q,rfl,h2⟩:=y0g h
 unfold qm wj
 rw [if_pos h,splA 32 q p h2]
 exact ⟨rfl,y68 32 q⟩
theorem z0j {x:Bs} (h:32 ∉ x):spl 32 x=[x]∧qm x=x∧wj x=[[]]:=by
 unfold qm wj
 rw [if_neg h,splN 32 x h]
 exact ⟨rfl,rfl,rfl⟩
def setC (j:Nat) (c:zm) (w:List Bs):Option zm:=
 match j with
 | 0=>if w.length=2 then some (zm.mk (w.getD 1 []) c.Subject c.Issuer c.Parent c.Audience c.Scopes c.From c.To) else none
 | 1=>if w.length=2 then some (zm.mk c.Id (w.getD 1 []) c.Issuer c.Parent c.Audience c.Scopes c.From c.To) else none
 | 2=>if w.length=2 then some (zm.mk c.Id c.Subject (w.getD 1 []) c.Parent c.Audience c.Scopes c.From c.To) else none
 | 3=>if w.length=2 then some (zm.mk c.Id c.Subject c.Issuer (w.getD 1 []) c.Audience c.Scopes c.From c.To) else none
 | 4=>if 1 < w.length then some (zm.mk c.Id c.Subject c.Issuer c.Parent (w.drop 1) c.Scopes c.From c.To) else none
 | 5=>if 1 < w.length then some (zm.mk c.Id c.Subject c.Issuer c.Parent c.Audience (w.drop 1) c.From c.To) else none
 | _=>if w.length=3∧okN 15 (w.getD 1 [])=true∧okN 15 (w.getD 2 [])=true then some (zm.mk c.Id c.Subject c.Issuer c.Parent c.Audience c.Scopes (valB (w.getD 1 [])) (valB (w.getD 2 []))) else none
def Zs:zm:=zm.mk [] [] [] [] [] [] 0 0
def finC (c:zm):zm×Int×Int:=if clF c≠0 then (Zs,0,clF c) else (c,0,0)
def errC (i:Nat):zm×Int×Int:=(Zs,(i:Int),9)
def rdC (e:Bool):List Bs→Nat→Nat→zm→zm×Int×Int
 | [],k,i,c=>if k=7 then finC c else errC i
 | x::L,k,i,c=>if (L=[]∧e=false)∨okK k (kd (qm x))=false∨[]∈spl 32 x then errC i else
  match setC (kd (qm x)) c (spl 32 x) with
  | none=>errC i
  | some c'=>rdC e L (kd (qm x)+1) (i+1) c'
theorem z1c {e:Bool} {x:Bs} {L:List Bs} {k i:Nat} {c:zm} (hk:k=3∨k=4∨k=5) (h:kd (qm x)≠k):rdC e (x::L) k i c=rdC e (x::L) (k+1) i c:=by
 have h7:=y3u (qm x)
 have:=x69 ⟨k,by omega⟩ ⟨kd (qm x),by omega⟩ (by rcases hk with rfl | rfl | rfl <;> rfl) h
 simp only at this
 simp only [rdC,this]
theorem y7v {e:Bool} {x:Bs} {L:List Bs} {k i:Nat} {c:zm} (hk:k=0∨k=1∨k=2∨k=6) (h:kd (qm x)≠k):rdC e (x::L) k i c=errC i:=by
 have h7:=y3u (qm x)
 have:=x7c ⟨k,by omega⟩ ⟨kd (qm x),by omega⟩ (by rcases hk with rfl | rfl | rfl | rfl <;> rfl) h
 simp only at this
 rw [rdC,if_pos (.inr (.inl this))]
theorem z8s {e:Bool} {x:Bs} {L:List Bs} {k i:Nat} {c:zm} (hk:k < 7) (h:kd (qm x)=k):rdC e (x::L) k i c=if (L=[]∧e=false)∨[]∈spl 32 x then errC i else match setC k c (spl 32 x) with | none=>errC i | some c'=>rdC e L (k+1) (i+1) c':=by
 have:=x7b ⟨k,hk⟩
 simp only at this
 rw [rdC,h,this]
 simp
theorem x5j {x:Bs} (h:x.length≤100000):Sh (spl 32 x):=⟨by have:=Yc 32 x; omega,fun y hy=>by have:=z39 32 x y hy; omega⟩
abbrev CRd:=yl
noncomputable def pT (a b c d:Bs) (au sc:List Bs) (s:CRd):Option (zm×Int×Int):=
 (Zd s).bind fun (r17:(Int×Int×yl))=>if (r17.2.2.bad_ || (decide (r17.2.2.at_ < (r17.2.2.lines_.length:Int)))) then (some ((zm.mk [] [] [] [] [] [] 0 0),r17.2.2.at_,9)) else ((Zf (zm.mk a b c d au sc r17.1 r17.2.1)).bind fun (r20:(Int))=>if decide (r20≠0) then (some ((zm.mk [] [] [] [] [] [] 0 0),0,r20)) else (some ((zm.mk a b c d au sc r17.1 r17.2.1),0,0)))
noncomputable def pM (a b c d:Bs) (au:List Bs) (s:CRd):=(jt s [109,97,121] false).bind fun (r15:((List Bs)×yl))=>pT a b c d au r15.1 r15.2
noncomputable def pF (a b c d:Bs) (s:CRd):=(jt s [102,111,114] false).bind fun (r13:((List Bs)×yl))=>pM a b c d r13.1 r13.2
noncomputable def pP (a b c:Bs) (s:CRd):=(jo s [112,97,114,101,110,116] false).bind fun (r11:(Bs×yl))=>pF a b c r11.1 r11.2
noncomputable def pI (a b:Bs) (s:CRd):=(jo s [105,115,115,117,101,114] true).bind fun (r9:(Bs×yl))=>pP a b r9.1 r9.2
noncomputable def pS (a:Bs) (s:CRd):=(jo s [115,117,98,106,101,99,116] true).bind fun (r7:(Bs×yl))=>pI a r7.1 r7.2
noncomputable def pD (s:CRd):=(jo s [105,100] true).bind fun (r5:(Bs×yl))=>pS r5.1 r5.2
theorem y0p (L:List Bs) (e:Bool) (i:Int) (w:Bs) (m:Bool):jt (yl.mk L e i true) w m=some ([],yl.mk L e i true):=by
 unfold jt; rfl
theorem y5a (L:List Bs) (e:Bool) (i:Int) (w:Bs) (m:Bool):jo (yl.mk L e i true) w m=some ([],yl.mk L e i true):=by
 unfold jo
 rw [y0p]; rfl
theorem x04 (a b c d:Bs) (au sc L:List Bs) (e:Bool) (i:Nat):pT a b c d au sc (yl.mk L e (i:Int) true)=some (errC i):=by
 unfold pT Zd
 rw [y0p]; rfl
theorem x06 (a b c d:Bs) (au L:List Bs) (e:Bool) (i:Nat):pM a b c d au (yl.mk L e (i:Int) true)=some (errC i):=by
 unfold pM; rw [y0p]; exact x04 a b c d au [] L e i
theorem x08 (a b c d:Bs) (L:List Bs) (e:Bool) (i:Nat):pF a b c d (yl.mk L e (i:Int) true)=some (errC i):=by
 unfold pF; rw [y0p]; exact x06 a b c d [] L e i
theorem x05 (a b c:Bs) (L:List Bs) (e:Bool) (i:Nat):pP a b c (yl.mk L e (i:Int) true)=some (errC i):=by
 unfold pP; rw [y5a]; exact x08 a b c [] L e i
theorem x07 (a b:Bs) (L:List Bs) (e:Bool) (i:Nat):pI a b (yl.mk L e (i:Int) true)=some (errC i):=by
 unfold pI; rw [y5a]; exact x05 a b [] L e i
theorem w29 (a:Bs) (L:List Bs) (e:Bool) (i:Nat):pS a (yl.mk L e (i:Int) true)=some (errC i):=by
 unfold pS; rw [y5a]; exact x07 a [] L e i
section
variable {Ls:List Bs} {e:Bool} (hn:Ls.length≤10000) (hp:∀ x,x∈Ls→x.length≤10000)
include hn hp
theorem y3n (i:Nat) (h:Ls.drop i=[]) (hi:i≤Ls.length) (w:Bs) (m:Bool):jt (yl.mk Ls e (i:Int) false) w m=some ([],yl.mk Ls e (i:Int) m):=by
 have:i=Ls.length:=by have:=List.drop_eq_nil_iff.1 h; omega
 unfold jt
 rw [if_neg (by simp),if_pos (decide_eq_true (by show (i:Int)=(Ls.length:Int); omega))]
theorem y3o {i:Nat} {x:Bs} {L:List Bs} (h:Ls.drop i=x::L) (k:Nat) (hk:k < 7) (m:Bool):jt (yl.mk Ls e (i:Int) false) (kdL.getD k []) m =
  some (if kd (qm x)≠k then ([],yl.mk Ls e (i:Int) m) else if []∈wj x∨(L=[]∧e=false) then ([],yl.mk Ls e (i:Int) true) else (wj x,yl.mk Ls e ((i+1:Nat):Int) false)):=by
 have hlt:i < Ls.length:=by
  have:=congrArg List.length h
  simp at this; omega
 have hx:Ls[i]?=some x:=by
  have:=congrArg (·[0]?) h
  simpa using this
 have hL:L.length=Ls.length - i - 1:=by
  have:=congrArg List.length h
  simp at this; omega
 have hxl:=hp x (List.mem_of_getElem? hx)
 have hcut:Lib.cut x [32]=(qm x,(if 32∈x then (Lib.cut x [32]).2.1 else []),decide (32∈x))∧spl 32 (if 32∈x then (Lib.cut x [32]).2.1 else [])=wj x:=by
  by_cases hm:32∈x
  ·obtain ⟨p,q,rfl,h2⟩:=y0g hm
   have e1:=x0p 32 p q h2
   unfold qm wj
   rw [e1,splA 32 q p h2]
   simp
  ·obtain ⟨e1,e2,e3⟩:=z0j hm
   rw [w2l 32 x hm,e2,e3]
   simp [hm,spl]
 obtain ⟨c1,c2⟩:=hcut
 generalize hrest:(if 32∈x then (Lib.cut x [32]).2.1 else [])=rest at c1 c2
 have hrl:rest.length≤x.length:=by
  rw [← hrest]
  split
  ·rename_i hm
   obtain ⟨p,q,rfl,h2⟩:=y0g hm
   rw [x0p 32 p q h2]
   simp; omega
  ·simp
 have hcm:Zi x [32]=some (qm x,rest,decide (32∈x)):=by unfold Zi; rw [if_pos (by omega),c1]
 unfold jt
 rw [if_neg (by simp),if_neg (by simp; omega)]
 rw [Yz,hx]
 simp only [Option.bind_some,hcm]
 by_cases hkd:kd (qm x)=k
 ·have hh:=(y3v (qm x) k hk).1 hkd
  rw [if_neg (by simpa using hh),if_neg (not_not_intro hkd),x1p rest (by omega),c2]
  simp only [Option.bind_some]
  have hw:wr ((Ls.length:Int) - 1)=(Ls.length:Int) - 1:=qw (by omega)
  have hw2:wr ((i:Int)+1)=((i+1:Nat):Int):=by rw [qw (by omega)]; omega
  rw [hw,hw2]
  have hlast:L=[]↔(i:Int)=(Ls.length:Int) - 1:=by
   rw [← List.length_eq_zero_iff]; omega
  by_cases hem:[]∈wj x
  ·have hy:((wj x).any fun y=>decide ([]=y))=true:=by rw [List.any_eq_true]; exact ⟨[],hem,by simp⟩
   rw [hy,if_pos (by simp),if_pos (.inl hem)]
  ·have hany:((wj x).any fun y=>decide ([]=y))=false:=by
    rw [List.any_eq_false]
    intro y hy hd
    have:([]:Bs)=y:=of_decide_eq_true hd
    rw [← this] at hy
    exact hem hy
   rw [hany]
   by_cases hl2:L=[]∧e=false
   ·rw [if_pos (by rw [hl2.2,decide_eq_true (hlast.1 hl2.1)]; simp),if_pos (.inr hl2)]
   ·rw [if_neg,if_neg (by rintro (h | h); exact hem h; exact hl2 h)]
    intro hh
    simp only [Bool.not_false,Bool.not_true,Bool.false_or,Bool.and_eq_true,Bool.not_eq_true',decide_eq_true_eq] at hh
    exact hl2 ⟨hlast.2 hh.2,hh.1⟩
 ·rw [if_pos (by simpa using fun hh=>hkd ((y3v (qm x) k hk).2 hh)),if_pos hkd]
theorem x67 (i:Nat) (h:Ls.drop i=[]) (hi:i≤Ls.length) (w:Bs) (m:Bool):jo (yl.mk Ls e (i:Int) false) w m=some ([],yl.mk Ls e (i:Int) m):=by
 unfold jo
 rw [y3n hn hp i h hi]
 rfl
theorem x68 {i:Nat} {x:Bs} {L:List Bs} (h:Ls.drop i=x::L) (k:Nat) (hk:k < 7) (m:Bool):jo (yl.mk Ls e (i:Int) false) (kdL.getD k []) m =
  some (if kd (qm x)≠k then ([],yl.mk Ls e (i:Int) m) else if []∈wj x∨(L=[]∧e=false)∨(wj x).length≠1 then ([],yl.mk Ls e (i:Int) true) else ((wj x).getD 0 [],yl.mk Ls e ((i+1:Nat):Int) false)):=by
 have hlt:i < Ls.length:=by
  have:=congrArg List.length h
  simp at this; omega
 have hl:=y3o (e:=e) hn hp h k hk m
 unfold jo
 by_cases hkd:kd (qm x)=k
 ·rw [if_neg (not_not_intro hkd)] at hl
  rw [hl,if_neg (not_not_intro hkd)]
  by_cases hc:[]∈wj x∨(L=[]∧e=false)
  ·rw [if_pos hc,if_pos (show []∈wj x∨(L=[]∧e=false)∨(wj x).length≠1 from hc.elim .inl (fun h => .inr (.inl h)))]
   rfl
  ·rw [if_neg hc]
   have hne:wj x≠[]:=by
    by_cases hm:32∈x
    ·exact (Yv hm).2
    ·rw [(z0j hm).2.2]; simp
   by_cases h1:(wj x).length=1
   ·obtain ⟨y,hy⟩:=List.length_eq_one_iff.1 h1
    rw [if_neg (show ¬ ([]∈wj x∨(L=[]∧e=false)∨(wj x).length≠1) by rintro (h | h | h); exact hc (.inl h); exact hc (.inr h); exact h h1),hy]
    rfl
   ·have hlen:1 < (wj x).length:=by
     have:=List.length_pos_iff.2 hne
     omega
    rw [if_pos (show []∈wj x∨(L=[]∧e=false)∨(wj x).length≠1 from .inr (.inr h1))]
    simp only [Option.bind_some]
    rw [if_pos (decide_eq_true (by omega)),qw (by omega)]
    unfold z0z
    rw [if_pos (decide_eq_true (by simp only; omega))]
    simp only
    congr 3
    omega
 ·rw [if_pos hkd] at hl
  rw [hl,if_pos hkd]
  rfl
theorem y4y {i:Nat} {x:Bs} {L:List Bs} (h:Ls.drop i=x::L):Ls.drop (i+1)=L∧i+1≤Ls.length∧x∈Ls:=by
 have hlt:i < Ls.length:=by
  have:=congrArg List.length h
  simp at this; omega
 refine ⟨?_,hlt,?_⟩
 ·rw [← List.drop_drop,h]; rfl
 ·exact List.mem_of_mem_drop (by rw [h]; simp)
theorem y10 {x:Bs} (h:x.length≤10000):Sh (wj x):=by
 by_cases hm:32∈x
 ·have h1:=x5j (x:=x) (by omega)
  rw [(Yv hm).1] at h1
  exact ⟨by have:=h1.1; simp at this; omega,fun y hy=>h1.2 y (by simp [hy])⟩
 ·rw [(z0j hm).2.2]; exact ⟨by simp,by simp⟩
theorem z2u {x:Bs} {k:Nat} (hk:k < 7) (h:kd (qm x)=k) (hm:32∈x):[]∈spl 32 x↔[]∈wj x:=by
 have hh:=(y3v (qm x) k hk).1 h
 have hne:qm x≠[]:=by
  rw [hh]
  have hc:k=0∨k=1∨k=2∨k=3∨k=4∨k=5∨k=6:=by omega
  rcases hc with rfl | rfl | rfl | rfl | rfl | rfl | rfl <;> decide
 rw [(Yv hm).1]
 simp [Ne.symm hne]
theorem y2l {x:Bs} (hm:32 ∉ x) (k:Nat) (c:zm):setC k c (spl 32 x)=none:=by
 rw [(z0j hm).1]
 unfold setC
 split <;> simp
theorem T_eq (a b c d:Bs) (au sc:List Bs) (i:Nat) (hi:i≤Ls.length) (hc:ClB (zm.mk a b c d au sc 0 0)):pT a b c d au sc (yl.mk Ls e (i:Int) false)=some (rdC e (Ls.drop i) 6 i (zm.mk a b c d au sc 0 0)):=by
 cases hd:Ls.drop i with
 | nil =>
  unfold pT Zd
  rw [y3n hn hp i hd hi]
  rfl
 | cons x L =>
  obtain ⟨d1,d2,d3⟩:=y4y hn hp hd
  have hxl:=hp x d3
  have hline:=y3o (e:=e) hn hp hd 6 (by omega) true
  have hline:jt (yl.mk Ls e (i:Int) false) [116,105,109,101] true=_:=hline
  by_cases hkd:kd (qm x)=6
  ·rw [z8s (by omega) hkd]
   rw [if_neg (not_not_intro hkd)] at hline
   by_cases hcond:[]∈wj x∨(L=[]∧e=false)
   ·rw [if_pos hcond] at hline
    have hr:pT a b c d au sc (yl.mk Ls e (i:Int) false)=some (errC i):=by
     unfold pT Zd
     rw [hline]; rfl
    rw [hr]
    by_cases hm:32∈x
    ·rw [if_pos (hcond.elim (fun h => .inr ((z2u hn hp (by omega) hkd hm).2 h)) .inl)]
    ·split
     ·rfl
     ·rw [y2l hn hp hm]
   ·rw [if_neg hcond] at hline
    have hm:32∈x:=by
     by_cases hm:32∈x
     ·exact hm
     ·exact absurd (.inl (by rw [(z0j hm).2.2]; simp)) hcond
    rw [if_neg (by rintro (h | h); exact hcond (.inr h); exact hcond (.inl ((z2u hn hp (by omega) hkd hm).1 h)))]
    have hts:=y10 hn hp hxl
    rw [(Yv hm).1]
    generalize htw:wj x=tw at *
    have hset:setC 6 (zm.mk a b c d au sc 0 0) (qm x::tw)=if (qm x::tw).length=3∧okN 15 ((qm x::tw).getD 1 [])=true∧okN 15 ((qm x::tw).getD 2 [])=true then some (zm.mk a b c d au sc (valB ((qm x::tw).getD 1 [])) (valB ((qm x::tw).getD 2 []))) else none:=rfl
    rw [hset]
    unfold pT Zd
    rw [hline]
    simp only [Option.bind_some]
    rw [if_neg (by simp)]
    by_cases h2:tw.length=2
    ·obtain ⟨y,z,rfl⟩:∃ y z,tw=[y,z]:=by
      match tw,h2 with
      | [y,z],_=>exact ⟨y,z,rfl⟩
     have k1:xf y 15=_:=y3r y 15 (by omega) (hts.2 y (by simp))
     have k2:xf z 15=_:=y3r z 15 (by omega) (hts.2 z (by simp))
     rw [if_pos (by simp)]
     simp only [List.getElem?_cons_zero,List.getElem?_cons_succ,Option.bind_some,k1,k2]
     by_cases ho:okN 15 y=true∧okN 15 z=true
     ·obtain ⟨o1,o2⟩:=ho
      have hs:(if [qm x,y,z].length=3∧okN 15 ([qm x,y,z].getD 1 [])=true∧okN 15 ([qm x,y,z].getD 2 [])=true then some (zm.mk a b c d au sc (valB ([qm x,y,z].getD 1 [])) (valB ([qm x,y,z].getD 2 []))) else none)=some (zm.mk a b c d au sc (valB y) (valB z)):=if_pos ⟨rfl,o1,o2⟩
      rw [hs,o1,o2]
      rw [if_pos (by simp)]
      simp only [Option.bind_some,if_true,Bool.false_or]
      have hcv:ClB (zm.mk a b c d au sc (valB y) (valB z)):=⟨hc.id,hc.subject,hc.issuer,hc.parent,hc.aud,hc.sc⟩
      cases L with
      | nil =>
       have hl:Ls.length=i+1:=by
        have:=List.drop_eq_nil_iff.1 d1
        omega
       rw [if_neg (by simp; omega),z6x _ hcv]
       simp only [Option.bind_some]
       show _=some (if (7:Nat)=7 then finC _ else errC (i+1))
       rw [if_pos rfl]
       unfold finC
       show _=some (if clF (zm.mk a b c d au sc (valB y) (valB z))≠0 then (Zs,0,clF (zm.mk a b c d au sc (valB y) (valB z))) else (zm.mk a b c d au sc (valB y) (valB z),0,0))
       by_cases h0:clF (zm.mk a b c d au sc (valB y) (valB z))=0 <;> simp [h0,Zs]
      | cons u L' =>
       have hl:i+1 < Ls.length:=by
        have:=congrArg List.length d1
        simp at this; omega
       rw [if_pos (decide_eq_true (by omega))]
       have hs:=x7a ⟨kd (qm u),by have:=y3u (qm u); omega⟩
       simp only at hs
       show _=some (rdC e (u::L') 7 (i+1) _)
       rw [rdC,if_pos (.inr (.inl hs))]
       rfl
     ·rw [if_neg (by simp only [Bool.and_eq_true]; exact ho),if_neg (fun h=>ho ⟨by simpa using h.2.1,by simpa using h.2.2⟩)]
      unfold Qf
      rw [qw (by simp only; omega)]
      show some (Zs,((i+1:Nat):Int) - 1,(9:Int))=some (errC i)
      unfold errC
      congr 3
      omega
    ·rw [if_neg (by simp; omega),if_neg (fun h=>h2 (by simpa using h.1))]
     unfold Qf
     rw [qw (by simp only; omega)]
     show some (Zs,((i+1:Nat):Int) - 1,(9:Int))=some (errC i)
     unfold errC
     congr 3
     omega
  ·rw [y7v (by omega) hkd]
   rw [if_pos hkd] at hline
   unfold pT Zd
   rw [hline]; rfl
theorem y8t {k:Nat} (hk:k=4∨k=5) {R:List Bs→CRd→Option (zm×Int×Int)} {c:zm} {mk:List Bs→zm} (i:Nat) (hi:i≤Ls.length)
  (hbad:∀ i,R [] (yl.mk Ls e ((i:Nat):Int) true)=some (errC i)) (hmk:mk []=c) (hset:∀ w,setC k c w=if 1 < w.length then some (mk (w.drop 1)) else none)
  (hgood:∀ w i,Sh w→i≤Ls.length→R w (yl.mk Ls e ((i:Nat):Int) false)=some (rdC e (Ls.drop i) (k+1) i (mk w))) :
  (jt (yl.mk Ls e (i:Int) false) (kdL.getD k []) false).bind (fun r=>R r.1 r.2)=some (rdC e (Ls.drop i) k i c):=by
 have hsh:Sh ([]:List Bs):=⟨by simp,by simp⟩
 cases hd:Ls.drop i with
 | nil =>
  rw [y3n hn hp i hd hi]
  simp only [Option.bind_some]
  rw [hgood [] i hsh hi,hd]
  simp only [rdC]
  rw [if_neg (by omega),if_neg (by omega)]
 | cons x L =>
  obtain ⟨d1,d2,d3⟩:=y4y hn hp hd
  have hxl:=hp x d3
  rw [y3o hn hp hd k (by omega)]
  simp only [Option.bind_some]
  by_cases hkd:kd (qm x)=k
  ·rw [z8s (by omega) hkd,if_neg (not_not_intro hkd)]
   by_cases hcond:[]∈wj x∨(L=[]∧e=false)
   ·rw [if_pos hcond,hbad]
    by_cases hm:32∈x
    ·rw [if_pos (hcond.elim (fun h => .inr ((z2u hn hp (by omega) hkd hm).2 h)) .inl)]
    ·split
     ·rfl
     ·rw [y2l hn hp hm]
   ·rw [if_neg hcond]
    have hm:32∈x:=by
     by_cases hm:32∈x
     ·exact hm
     ·exact absurd (.inl (by rw [(z0j hm).2.2]; simp)) hcond
    rw [if_neg (by rintro (h | h); exact hcond (.inr h); exact hcond (.inl ((z2u hn hp (by omega) hkd hm).1 h)))]
    rw [hgood _ (i+1) (y10 hn hp hxl) d2,d1,hset,(Yv hm).1,if_pos (by have:=List.length_pos_iff.2 (Yv hm).2; simp; omega)]
    simp
  ·rw [if_pos hkd,hgood [] i hsh hi,hd,hmk,z1c (by omega) hkd]
theorem oneP {k:Nat} (hk:k=0∨k=1∨k=2∨k=3) {R:Bs→CRd→Option (zm×Int×Int)} {c:zm} {mk:Bs→zm} (i:Nat) (hi:i≤Ls.length)
  (hbad:∀ i,R [] (yl.mk Ls e ((i:Nat):Int) true)=some (errC i)) (hmk:mk []=c) (hset:∀ w,setC k c w=if w.length=2 then some (mk (w.getD 1 [])) else none)
  (hgood:∀ w i,w.length≤1000000→i≤Ls.length→R w (yl.mk Ls e ((i:Nat):Int) false)=some (rdC e (Ls.drop i) (k+1) i (mk w))) :
  (jo (yl.mk Ls e (i:Int) false) (kdL.getD k []) (decide (k≠3))).bind (fun r=>R r.1 r.2)=some (rdC e (Ls.drop i) k i c):=by
 cases hd:Ls.drop i with
 | nil =>
  rw [x67 hn hp i hd hi]
  simp only [Option.bind_some]
  by_cases h3:k=3
  ·rw [decide_eq_false (not_not_intro h3),hgood [] i (by simp) hi,hd]
   simp only [rdC]
   rw [if_neg (by omega),if_neg (by omega)]
  ·rw [decide_eq_true h3,hbad]
   simp only [rdC]
   rw [if_neg (by omega)]
 | cons x L =>
  obtain ⟨d1,d2,d3⟩:=y4y hn hp hd
  have hxl:=hp x d3
  rw [x68 hn hp hd k (by omega)]
  simp only [Option.bind_some]
  by_cases hkd:kd (qm x)=k
  ·rw [z8s (by omega) hkd,if_neg (not_not_intro hkd)]
   by_cases hcond:[]∈wj x∨(L=[]∧e=false)∨(wj x).length≠1
   ·rw [if_pos hcond,hbad]
    by_cases hm:32∈x
    ·rcases hcond with h | h | h
     ·rw [if_pos (.inr ((z2u hn hp (by omega) hkd hm).2 h))]
     ·rw [if_pos (.inl h)]
     ·split
      ·rfl
      ·rw [hset,(Yv hm).1,if_neg (by simp; omega)]
    ·split
     ·rfl
     ·rw [y2l hn hp hm]
   ·rw [if_neg hcond]
    have hm:32∈x:=by
     by_cases hm:32∈x
     ·exact hm
     ·exact absurd (.inl (by rw [(z0j hm).2.2]; simp)) hcond
    have hlen:(wj x).length=1:=by
     by_cases h:(wj x).length=1
     ·exact h
     ·exact absurd (.inr (.inr h)) hcond
    rw [if_neg (by rintro (h | h); exact hcond (.inr (.inl h)); exact hcond (.inl ((z2u hn hp (by omega) hkd hm).1 h)))]
    have hts:=y10 hn hp hxl
    obtain ⟨y,hy⟩:=List.length_eq_one_iff.1 hlen
    rw [hset,(Yv hm).1,hy,if_pos (by simp)]
    rw [hy] at hts
    show R y _=_
    rw [hgood y (i+1) (hts.2 y (by simp)) d2,d1]
    rfl
  ·rw [if_pos hkd]
   by_cases h3:k=3
   ·rw [decide_eq_false (not_not_intro h3),hgood [] i (by simp) hi,hd,hmk,z1c (by omega) hkd]
   ·rw [decide_eq_true h3,hbad,y7v (by omega) hkd]
theorem M_eq (a b c d:Bs) (au:List Bs) (i:Nat) (hi:i≤Ls.length) (hc:ClB (zm.mk a b c d au [] 0 0)):pM a b c d au (yl.mk Ls e (i:Int) false)=some (rdC e (Ls.drop i) 5 i (zm.mk a b c d au [] 0 0)):=
 y8t hn hp (k:=5) (.inr rfl) (R:=fun w s=>pT a b c d au w s) (mk:=fun w=>zm.mk a b c d au w 0 0) i hi (fun i=>x04 a b c d au [] Ls e i) rfl (fun w=>rfl) fun w i hw hi=>T_eq hn hp a b c d au w i hi ⟨hc.id,hc.subject,hc.issuer,hc.parent,hc.aud,hw⟩
theorem F_eq (a b c d:Bs) (i:Nat) (hi:i≤Ls.length) (hc:ClB (zm.mk a b c d [] [] 0 0)):pF a b c d (yl.mk Ls e (i:Int) false)=some (rdC e (Ls.drop i) 4 i (zm.mk a b c d [] [] 0 0)):=
 y8t hn hp (k:=4) (.inl rfl) (R:=fun w s=>pM a b c d w s) (mk:=fun w=>zm.mk a b c d w [] 0 0) i hi (fun i=>x06 a b c d [] Ls e i) rfl (fun w=>rfl) fun w i hw hi=>M_eq hn hp a b c d w i hi ⟨hc.id,hc.subject,hc.issuer,hc.parent,hw,hc.sc⟩
theorem P_eq (a b c:Bs) (i:Nat) (hi:i≤Ls.length) (hc:ClB (zm.mk a b c [] [] [] 0 0)):pP a b c (yl.mk Ls e (i:Int) false)=some (rdC e (Ls.drop i) 3 i (zm.mk a b c [] [] [] 0 0)):=
 oneP hn hp (k:=3) (by omega) (R:=fun w s=>pF a b c w s) (mk:=fun w=>zm.mk a b c w [] [] 0 0) i hi (fun i=>x08 a b c [] Ls e i) rfl (fun w=>rfl) fun w i hw hi=>F_eq hn hp a b c w i hi ⟨hc.id,hc.subject,hc.issuer,hw,hc.aud,hc.sc⟩
theorem I_eq (a b:Bs) (i:Nat) (hi:i≤Ls.length) (hc:ClB (zm.mk a b [] [] [] [] 0 0)):pI a b (yl.mk Ls e (i:Int) false)=some (rdC e (Ls.drop i) 2 i (zm.mk a b [] [] [] [] 0 0)):=
 oneP hn hp (k:=2) (by omega) (R:=fun w s=>pP a b w s) (mk:=fun w=>zm.mk a b w [] [] [] 0 0) i hi (fun i=>x05 a b [] Ls e i) rfl (fun w=>rfl) fun w i hw hi=>P_eq hn hp a b w i hi ⟨hc.id,hc.subject,hw,hc.parent,hc.aud,hc.sc⟩
theorem S_eq (a:Bs) (i:Nat) (hi:i≤Ls.length) (hc:ClB (zm.mk a [] [] [] [] [] 0 0)):pS a (yl.mk Ls e (i:Int) false)=some (rdC e (Ls.drop i) 1 i (zm.mk a [] [] [] [] [] 0 0)):=
 oneP hn hp (k:=1) (by omega) (R:=fun w s=>pI a w s) (mk:=fun w=>zm.mk a w [] [] [] [] 0 0) i hi (fun i=>x07 a [] Ls e i) rfl (fun w=>rfl) fun w i hw hi=>I_eq hn hp a w i hi ⟨hc.id,hw,hc.issuer,hc.parent,hc.aud,hc.sc⟩
theorem D_eq (i:Nat) (hi:i≤Ls.length):pD (yl.mk Ls e (i:Int) false)=some (rdC e (Ls.drop i) 0 i (zm.mk [] [] [] [] [] [] 0 0)):=
 oneP hn hp (k:=0) (by omega) (R:=fun w s=>pS w s) (mk:=fun w=>zm.mk w [] [] [] [] [] 0 0) i hi (fun i=>w29 [] Ls e i) rfl (fun w=>rfl) fun w i hw hi=>S_eq hn hp w i hi ⟨hw,by simp,by simp,by simp,y7e,y7e⟩
end
def rdT (t:Bs):zm×Int×Int:=if 4000 < t.length then (Zs,0,2) else rdC (lnS t).2 (lnS t).1 0 0 Zs
theorem x6n (t:Bs) (hl:t.length≤1000000):z43 t=some (rdT t):=by
 unfold z43 rdT
 by_cases h:4000 < t.length
 ·rw [if_pos (by simp; omega),if_pos h]; rfl
 ·rw [if_neg (by simp; omega),if_neg h,x7u t hl]
  simp only [Option.bind_some]
  show pD (yl.mk (lnS t).1 (lnS t).2 0 false)=_
  have h1:(lnS t).1.length≤10000∧∀ x,x∈(lnS t).1→x.length≤10000:=by
   have hw:=Yc 10 t
   have hp:=z39 10 t
   unfold lnS
   split
   ·exact ⟨by simp; omega,fun x hx=>by have:=hp x ((List.dropLast_sublist _).subset hx); omega⟩
   ·exact ⟨by simp only; omega,fun x hx=>by have:=hp x hx; omega⟩
  exact D_eq h1.1 h1.2 0 (Nat.zero_le _)
structure CSm (c:zm):Prop where
 id:c.Id.length≤10
 subject:c.Subject.length≤10
 issuer:c.Issuer.length≤10
 parent:c.Parent.length≤10
 aud:c.Audience.length≤5∧∀ x,x∈c.Audience→x.length≤1000
 sc:c.Scopes.length≤5∧∀ x,x∈c.Scopes→x.length≤1000
 fr:0≤c.From∧c.From≤1000
 tu:0≤c.To∧c.To≤1000
theorem CSm.wb {c:zm} (h:CSm c):CWB c:=
 ⟨by have:=h.id; omega,by have:=h.subject; omega,by have:=h.issuer; omega,by have:=h.parent; omega,⟨by have:=h.aud.1; omega,fun x hx=>by have:=h.aud.2 x hx; omega⟩,⟨by have:=h.sc.1; omega,fun x hx=>by have:=h.sc.2 x hx; omega⟩,by have:=h.fr; omega,by have:=h.tu; omega⟩
theorem y8d {x:Bs} {l:List Bs} (h:x∈l) (hl:l.all fun y=>decide (y.length≤10)):x.length≤10:=by
 have:=List.all_eq_true.1 hl x h
 simpa using this

def badB (c:UInt8):Bool:=decide ((c.toNat:Int) < 33) || decide (126 < (c.toNat:Int))
def secF (s:Bs):Int:=if s=[]∨s.any badB=true then 3 else if 100 < s.length then 2 else 0
theorem w3t (s:Bs):(s.all fun c => !badB c) = !s.any badB:=by
 induction s with
 | nil=>rfl
 | cons c s ih=>simp only [List.all_cons,List.any_cons,ih,Bool.not_or]
theorem x5u (s:Bs) (h:s.length≤1000000000):z4s s=some (secF s):=by
 unfold z4s
 rw [if_pos h,xk (p:=fun _ c => !badB c) (r0:=3) (e:=if s=[] then 3 else if 100 < s.length then 2 else 0) ?_ s 0 fun j x _ _ => ?_]
 ·rw [z29 (fun c => !badB c),w3t]
  unfold secF
  cases s.any badB
  ·by_cases h1:s=[] <;> simp [h1]
  ·simp
 ·unfold z7w
  by_cases h1:s=[]
  ·simp [h1]
  ·by_cases h2:100 < s.length
   ·have:(100:Int) < s.length:=by omega
    simp [h1,h2,this]
   ·have:¬ (100:Int) < s.length:=by omega
    simp [h1,h2,this]
 ·unfold z7v z0v badB
  by_cases h1:(x.toNat:Int) < 33
  ·simp [h1]
  ·by_cases h2:126 < (x.toNat:Int) <;> simp [h1,h2]
structure SgB (l:List yh):Prop where
 len:l.length≤1000
 key:∀ x,x∈l→x.Id.length≤1000∧x.Secret.length≤1000
def y3p (l:List yh) (k:Nat) (x:yh):Bool:=decide (0 < k) && match l[k - 1]? with | some y=>decide (x.From < y.From) | none=>false
def sg1 (l:List yh) (k:Nat) (x:yh):Int:=
 if (!keyP x.Id)=true then 5 else if ((l.take k).any fun o=>decide (o.Id=x.Id))=true then 6 else if secF x.Secret≠0 then secF x.Secret
 else if (outP x.From 0 x.To || decide (x.Until < x.To) || decide (345686400000 < x.Until))=true then 1 else if y3p l k x=true then 7 else 0
def sgF (l:List yh):Int:=if 50 < l.length then 2 else feI (sg1 l) 0 l
theorem w2q (l:List yh) (h:l.length≤1000000000) (p:yh→Option Bool) (q:yh→Bool) (hp:∀ x,p x=some (q x)):z9g l p=some (l.any q):=
 y4s l q h fun x _=>hp x
theorem x5p (l:List yh) (hl:SgB l) (k:Nat) (x:yh) (hx:l[k]?=some x):z4q l (k:Int)=some (sg1 l k x):=by
 have hk:=kn hx
 have hb:=hl.key x (List.mem_of_getElem? hx)
 have hn:=hl.len
 unfold z4q sg1
 rw [Yz,hx]
 simp only [Option.bind_some]
 rw [kk x.Id (by omega),y12 l k (by omega)]
 simp only [Option.bind_some]
 rw [w2q (l.take k) (by rw [List.length_take]; omega) (fun a0=>z4p a0 x) (fun o=>decide (o.Id=x.Id)) (fun _=>rfl),x5u x.Secret (by omega),z4h]
 simp only [Option.bind_some]
 have hlate:(if decide (0 < (k:Int))=true then (at? l (wr ((k:Int) - 1))).bind fun (x21:yh)=>Zz (decide (x.From < x21.From)) else Zz false)=some (if y3p l k x=true then 7 else 0):=by
  unfold y3p Zz
  by_cases h0:0 < k
  ·obtain ⟨y,hy⟩:∃ y,l[k - 1]?=some y:=⟨_,List.getElem?_eq_getElem (by omega)⟩
   have e1:at? l (wr ((k:Int) - 1))=some y:=by
    rw [qw (by omega),show (k:Int) - 1=((k - 1:Nat):Int) by omega,Yz]; exact hy
   rw [if_pos (by simpa using h0),e1,hy]
   by_cases h1:x.From < y.From <;> simp [h0,h1]
  ·rw [if_neg (by simpa using h0)]
   simp [h0]
 rw [hlate]
 cases keyP x.Id
 ·rfl
 ·cases ((l.take k).any fun o=>decide (o.Id=x.Id))
  ·by_cases h2:secF x.Secret=0
   ·simp only [h2,Bool.not_true,Bool.false_eq_true,if_false,ne_eq,not_true_eq_false,decide_false]
    cases (outP x.From 0 x.To || decide (x.Until < x.To) || decide (345686400000 < x.Until)) <;> rfl
   ·simp [h2]
  ·rfl
theorem x0w (l:List yh) (hl:SgB l):Yh l=some (sgF l):=by
 have hn:=hl.len
 unfold Yh sgF
 by_cases h1:50 < l.length
 ·rw [if_pos (by simp; omega),if_pos h1]
 ·rw [if_neg (by simp; omega),if_neg h1,if_pos (by omega)]
  refine z2r rfl l 0 fun j x _ hx => ?_
  have hx:l[j]?=some x:=by simpa using hx
  unfold z71
  rw [x5p l hl j x hx]
  simp only [Option.bind_some]
  by_cases h2:sg1 l j x=0 <;> simp [h2]
section
variable (l:List yh) (hl:SgB l) (id secret:Bs) (a long life:Int) (hid:id.length≤1000) (hse:secret.length≤1000)
include hl hid hse
end
end Go.Proofs.YtbndlmnjeofkdadGreatDoor
