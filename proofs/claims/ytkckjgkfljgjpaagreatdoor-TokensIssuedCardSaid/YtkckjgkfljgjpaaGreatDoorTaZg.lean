/- Plain: secrets, signers. -/
import Derived.Test.YtkckjgkfljgjpaaGreatDoorKeZg
namespace Go.Proofs.YtkckjgkfljgjpaaGreatDoor
set_option linter.unusedVariables false
set_option linter.unusedSimpArgs false
set_option linter.unusedSectionVars false
set_option maxRecDepth 20000

def badB (c:UInt8):Bool:=decide ((c.toNat:Int) < 33) || decide (126 < (c.toNat:Int))
def secF (s:Bs):Int:=if s=[]∨s.any badB=true then 3 else if 100 < s.length then 2 else 0
theorem w0p (s:Bs):(s.all fun c => !badB c) = !s.any badB:=by
 induction s with
 | nil=>rfl
 | cons c s ih=>simp only [List.all_cons,List.any_cons,ih,Bool.not_or]
theorem w3j (s:Bs) (h:s.length≤1000000000):z9m s=some (secF s):=by
 unfold z9m
 rw [if_pos h,y2z (p:=fun _ c => !badB c) (r0:=3) (e:=if s=[] then 3 else if 100 < s.length then 2 else 0) ?_ s 0 fun j x _ _ => ?_]
 ·rw [y6q (fun c => !badB c),w0p]
  unfold secF
  cases s.any badB
  ·by_cases h1:s=[] <;> simp [h1]
  ·simp
 ·unfold y0c
  by_cases h1:s=[]
  ·simp [h1]
  ·by_cases h2:100 < s.length
   ·have:(100:Int) < s.length:=by omega
    simp [h1,h2,this]
   ·have:¬ (100:Int) < s.length:=by omega
    simp [h1,h2,this]
 ·unfold y0b z7i badB
  by_cases h1:(x.toNat:Int) < 33
  ·simp [h1]
  ·by_cases h2:126 < (x.toNat:Int) <;> simp [h1,h2]
theorem w21 (s:Bs) (h:s.length≤1000000000):z93 s 33=some (!s.any badB):=by
 unfold z93
 rw [if_pos h,y2z (p:=fun _ c => !badB c) (r0:=false) (e:=true) rfl s 0 fun j x _ _ => ?_]
 ·rw [y6q (fun c => !badB c),w0p]
  cases s.any badB <;> rfl
 ·unfold y0w z73 badB
  by_cases h1:(x.toNat:Int) < 33
  ·simp [h1]
  ·by_cases h2:126 < (x.toNat:Int) <;> simp [h1,h2]
theorem w3i (s:Bs) (h:s.length≤1000000000):z7u s=some (secF s):=by
 unfold z7u
 have hJ:∀ b,secF s=(if b=true then 3 else if 100 < s.length then 2 else 0)→z4t s b=some (secF s):=by
  intro b hb
  rw [hb]
  unfold z4t
  cases b
  ·by_cases h2:100 < s.length
   ·have:(100:Int) < s.length:=by omega
    simp [h2,this]
   ·have:¬ (100:Int) < s.length:=by omega
    simp [h2,this]
  ·rfl
 by_cases h1:s=[]
 ·rw [if_pos (by simpa using h1)]
  exact hJ true (by unfold secF; simp [h1])
 ·rw [if_neg (by simpa using h1),w21 s h]
  refine hJ _ ?_
  unfold secF
  cases s.any badB <;> simp [h1]

structure SgB (l:List z0g):Prop where
 len:l.length≤1000
 key:∀ x,x∈l→x.Id.length≤1000∧x.Secret.length≤1000
def x7o (l:List z0g) (k:Nat) (x:z0g):Bool:=decide (0 < k) && match l[k - 1]? with | some y=>decide (x.From < y.From) | none=>false
def sg1 (l:List z0g) (k:Nat) (x:z0g):Int:=
 if (!keyP x.Id)=true then 5 else if ((l.take k).any fun o=>decide (o.Id=x.Id))=true then 6 else if secF x.Secret≠0 then secF x.Secret
 else if (outP x.From 0 x.To || decide (x.Until < x.To) || decide (345686400000 < x.Until))=true then 1 else if x7o l k x=true then 7 else 0
def sgF (l:List z0g):Int:=if 50 < l.length then 2 else feI (sg1 l) 0 l
theorem x95 (l:List z0g) (h:l.length≤1000000000) (p:z0g→Option Bool) (q:z0g→Bool) (hp:∀ x,p x=some (q x)):z1x l p=some (l.any q):=
 x2d l q h fun x _=>hp x
theorem w5l (l:List z0g) (hl:SgB l) (k:Nat) (x:z0g) (hx:l[k]?=some x):z9l l (k:Int)=some (sg1 l k x):=by
 have hk:=y2u hx
 have hb:=hl.key x (List.mem_of_getElem? hx)
 have hn:=hl.len
 unfold z9l sg1
 rw [x0h,hx]
 simp only [Option.bind_some]
 rw [y4z x.Id (by omega),y7j l k (by omega)]
 simp only [Option.bind_some]
 rw [x95 (l.take k) (by rw [List.length_take]; omega) (fun a0=>z8e a0 x) (fun o=>decide (o.Id=x.Id)) (fun _=>rfl),w3j x.Secret (by omega),w5r]
 simp only [Option.bind_some]
 have hlate:(if decide (0 < (k:Int))=true then (at? l (wr ((k:Int) - 1))).bind fun (x21:z0g)=>z5e (decide (x.From < x21.From)) else z5e false)=some (if x7o l k x=true then 7 else 0):=by
  unfold x7o z5e
  by_cases h0:0 < k
  ·obtain ⟨y,hy⟩:∃ y,l[k - 1]?=some y:=⟨_,List.getElem?_eq_getElem (by omega)⟩
   have e1:at? l (wr ((k:Int) - 1))=some y:=by
    rw [y1g (by omega),show (k:Int) - 1=((k - 1:Nat):Int) by omega,x0h]; exact hy
   rw [if_pos (by simpa using h0),e1,hy]
   by_cases h1:x.From < y.From <;> simp [h0,h1]
  ·rw [if_neg (by simpa using h0)]
   simp [h0]
 rw [hlate]
 cases keyP x.Id
 ·rfl
 ·cases ((l.take k).any fun o=>decide (o.Id=x.Id))
  ·by_cases h2:secF x.Secret=0
   ·simp only [h2,Bool.not_true,Bool.false_eq_true,if_false,ne_eq,not_true_eq_false,decide_false]
    cases (outP x.From 0 x.To || decide (x.Until < x.To) || decide (345686400000 < x.Until)) <;> rfl
   ·simp [h2]
  ·rfl
theorem w5k (l:List z0g) (hl:SgB l) (k:Nat) (x:z0g) (hx:l[k]?=some x):z63 l k x=if sg1 l k x≠0 then some (.inr (sg1 l k x)) else some (.inl ()):=by
 have hk:=y2u hx
 have hb:=hl.key x (List.mem_of_getElem? hx)
 have hn:=hl.len
 unfold z63 sg1
 rw [y8h x.Id (by omega),y7j l k (by omega)]
 simp only [Option.bind_some]
 rw [x95 (l.take k) (by rw [List.length_take]; omega) (fun a0=>z6i a0 x) (fun o=>decide (o.Id=x.Id)) (fun _=>rfl),w3i x.Secret (by omega),w6x]
 simp only [Option.bind_some]
 have hlate:(if decide (0 < (k:Int))=true then (at? l ((k:Int) - 1)).bind fun (x21:z0g)=>z2z (decide (x.From < x21.From)) else z2z false)=if x7o l k x=true then some (.inr 7) else some (.inl ()):=by
  unfold x7o z2z
  by_cases h0:0 < k
  ·obtain ⟨y,hy⟩:∃ y,l[k - 1]?=some y:=⟨_,List.getElem?_eq_getElem (by omega)⟩
   have e1:at? l ((k:Int) - 1)=some y:=by
    rw [show (k:Int) - 1=((k - 1:Nat):Int) by omega,x0h]; exact hy
   rw [if_pos (by simpa using h0),e1,hy]
   by_cases h1:x.From < y.From <;> simp [h0,h1]
  ·rw [if_neg (by simpa using h0)]
   simp [h0]
 rw [hlate,Bool.not_not]
 cases keyP x.Id
 ·rfl
 ·cases ((l.take k).any fun o=>decide (o.Id=x.Id))
  ·by_cases h2:secF x.Secret=0
   ·simp only [h2,Bool.not_true,Bool.false_eq_true,if_false,ne_eq,not_true_eq_false,decide_false]
    cases (outP x.From 0 x.To || decide (x.Until < x.To) || decide (345686400000 < x.Until))
    ·cases x7o l k x <;> rfl
    ·rfl
   ·simp [h2]
  ·rfl
theorem w0c (l:List z0g) (hl:SgB l):z7j l=some (sgF l):=by
 have hn:=hl.len
 unfold z7j sgF
 by_cases h1:50 < l.length
 ·rw [if_pos (by simp; omega),if_pos h1]
 ·rw [if_neg (by simp; omega),if_neg h1,if_pos (by omega)]
  refine x2e rfl l 0 fun j x _ hx => ?_
  have hx:l[j]?=some x:=by simpa using hx
  unfold z9z
  rw [w5l l hl j x hx]
  simp only [Option.bind_some]
  by_cases h2:sg1 l j x=0 <;> simp [h2]
theorem x9s (l:List z0g) (hl:SgB l):z7c l=some (sgF l):=by
 have hn:=hl.len
 unfold z7c sgF
 by_cases h1:50 < l.length
 ·rw [if_pos (by simp; omega),if_pos h1]
 ·rw [if_neg (by simp; omega),if_neg h1,if_pos (by omega)]
  exact x2e rfl l 0 fun j x _ hx=>w5k l hl j x (by simpa using hx)

def w16 (l:List z0g) (a:Int):Bool:=match l[l.length - 1]? with | some y=>decide (a < y.From) | none=>false
def rtF (l:List z0g) (id secret:Bs) (a long life:Int):Int:=
 if (!keyP id)=true then 5 else if (l.any fun o=>decide (o.Id=id))=true then 6 else if secF secret≠0 then secF secret
 else if (!momP a || outP long 1 345686400000 || outP life 0 345686400000)=true then 1 else if w16 l a=true then 7 else if 50≤l.length then 2 else 0
def cutS (a:Int) (x:z0g):z0g:=⟨x.Id,x.Secret,x.From,min x.To a,x.Until⟩
def newS (id secret:Bs) (a long life:Int):z0g:=⟨id,secret,a,min (wr (a+long)) 345686400000,min (wr (min (wr (a+long)) 345686400000+life)) 345686400000⟩
section
variable (l:List z0g) (hl:SgB l) (id secret:Bs) (a long life:Int) (hid:id.length≤1000) (hse:secret.length≤1000)
include hl hid hse
end
theorem x8s {k:Int} {s:z0d} (h:SB k s) (hk:k≤1000000):Ok (z60 s) fun r=>r.1.length≤1000∧SB (k+1) r.2:=by
 unfold z60 z41
 rw [if_pos (by decide)]
 simp only [Option.bind_some]
 refine z02 (z9j h (by omega) _ ⟨by simp,by simp⟩) fun r hr=>z1z ⟨?_,hr.2⟩
 have h1:=hr.1
 simp only [List.mem_cons,List.not_mem_nil,or_false] at h1
 simp only
 rcases h1 with h1 | h1 | h1 | h1 | h1 | h1 | h1 | h1 | h1 <;> rw [h1] <;> first | decide | (rw [Lib.repeatL_length]; decide)
theorem x3i {k:Int} {s:z0d} (h:SB k s) (hk:k≤1000000):Ok (z5q s) fun r=>SB (k+1) r.2:=by
 unfold z5q
 exact z02 (y4d h (by omega) _ ⟨by simp,by simp⟩) fun r hr=>z1z hr.2
theorem x7a {k:Int} {s:z0d} (h:SB k s) (hk:k≤1000000):Ok (z4h s) fun r=>SgB r.1∧SB (k+20) r.2:=by
 unfold z4h
 refine z02 (x1t h (by omega) 0 3 (by omega)) fun r2 h2 => ?_
 have hsub:Ok (sub? ([[115,49],[115,50],[115,51]]:List Bs) 0 r2.1) fun l=>l.length≤3∧∀ x,x∈l→x.length≤2:=by
  unfold sub?
  rw [if_pos (by simp; omega)]
  refine z1z ⟨by simp; omega,fun x hx => ?_⟩
  have:=List.mem_of_mem_take hx
  have:=List.mem_of_mem_drop this
  simp at this
  rcases this with rfl | rfl | rfl <;> decide
 refine z02 hsub fun l4 h4=>ok_g (by omega) ?_
 refine x41 (fun (j:Nat) (q:Int×(List Int)×Int×(List z0g))=>SB (k+1+4 * (j:Int)) ⟨q.2.1,q.2.2.1⟩∧q.2.2.2.length≤j∧∀ x,x∈q.2.2.2→x.Id.length≤1000∧x.Secret.length≤1000) l4 0 _ ⟨by simpa using h2.2,by simp,by simp⟩ ?_ ?_
 ·rintro j x ⟨v6,c7,c8,l9⟩ _ hx ⟨q1,q2,q3⟩
  simp only at q1 q2 q3
  have hx:l4[j]?=some x:=by simpa using hx
  have hj:=y2u hx
  have hxl:=h4.2 x (List.mem_of_getElem? hx)
  unfold z55
  refine z02 (y4d q1 (by omega) _ ⟨by simp,by simp⟩) fun r16 h16=>z02 (z9j h16.2 (by omega) _ ⟨by simp,by simp⟩) fun r18 h18=>z02 (y4d h18.2 (by omega) _ ⟨by simp,by simp⟩) fun r20 h20=>z02 (y4d h20.2 (by omega) _ ⟨by simp,by simp⟩) fun r22 h22=>ok_g (by simp only; omega) (z1z ⟨h22.2.mono (by omega),by simp; omega,fun y hy => ?_⟩)
  rcases List.mem_append.1 hy with hy | hy
  ·exact q3 y hy
  ·simp only [List.mem_singleton] at hy
   subst hy
   refine ⟨by simp only; omega,?_⟩
   show r18.1.length≤1000
   have:=h18.1
   simp only [List.mem_cons,List.not_mem_nil,or_false] at this
   rcases this with h | h | h <;> rw [h] <;> decide
 ·rintro ⟨v6,c7,c8,l9⟩ ⟨q1,q2,q3⟩
  simp only at q1 q2 q3
  exact z1z ⟨⟨by simp only; omega,q3⟩,q1.mono (by omega)⟩
theorem x69 {k:Int} {s:z0d} (h:SB k s) (hk:k≤100000):Ok (z6j s) fun r=>SgB r.1∧SB (k+40) r.2:=by
 unfold z6j
 refine z02 (x7a h (by omega)) fun r2 h2 => ?_
 obtain ⟨hb,hs2⟩:=h2
 have hn:=hb.len
 have hset:∀ (i:Nat) (y:z0g),y.Id.length≤1000∧y.Secret.length≤1000→∀ l,SgB l→SgB (l.set i y):=fun i y hy l hl=>⟨by simpa using hl.len,fun x hx=>by
  rcases List.mem_or_eq_of_mem_set hx with hx | rfl
  ·exact hl.key x hx
  ·exact hy⟩
 have hJ2:∀ b c a,SB (k+21) ⟨c,a⟩→(b=true→0 < r2.1.length)→Ok (z3g r2 b c a) fun r=>SgB r.1∧SB (k+40) r.2:=by
  intro b c a hs hb0
  unfold z3g z2m
  refine y2r (fun hb1 => ?_) (fun _=>z1z ⟨hb,hs.mono (by omega)⟩)
  have hpos:=hb0 hb1
  refine z02 (y29 hs (by omega) _ (by omega)) fun r13 h13 => ?_
  have h14:=h13.1.2.1 (by omega)
  have hat:Ok (at? r2.1 r13.1) fun x=>x∈r2.1:=by
   unfold at?
   rw [if_pos h13.1.1,List.getElem?_eq_getElem (by omega)]
   exact ⟨_,rfl,List.getElem_mem _⟩
  refine z02 hat fun x15 hx15=>z02 (y29 h13.2 (by omega) _ (by omega)) fun r17 h17 => ?_
  have hx:=hb.key x15 hx15
  refine y2r (fun _ => ?_) (fun _=>y2r (fun _ => ?_) (fun _ => ?_))
  ·refine z02 (z9j h17.2 (by omega) _ ⟨by simp,by simp⟩) fun r20 h20=>z1z ⟨hset _ ⟨r20.1,x15.Secret,x15.From,x15.To,x15.Until⟩ ⟨?_,hx.2⟩ _ hb,h20.2.mono (by omega)⟩
   show r20.1.length≤1000
   have:=h20.1
   simp only [List.mem_cons,List.not_mem_nil,or_false] at this
   rcases this with h | h | h <;> rw [h] <;> decide
  ·exact z02 (x8s h17.2 (by omega)) fun r23 h23=>z1z ⟨hset _ ⟨x15.Id,r23.1,x15.From,x15.To,x15.Until⟩ ⟨hx.1,h23.1⟩ _ hb,h23.2.mono (by omega)⟩
  ·exact z02 (x57 h17.2 (by omega) _ _ (by omega)) fun r25 h25=>z02 (x57 h25.2 (by omega) _ _ (by omega)) fun r27 h27=>z1z ⟨hset _ ⟨x15.Id,x15.Secret,r25.1,r27.1,x15.Until⟩ hx _ (hset _ ⟨x15.Id,x15.Secret,r25.1,x15.To,x15.Until⟩ hx _ hb),h27.2.mono (by omega)⟩
 refine y2r (fun h => ?_) (fun _=>hJ2 _ _ _ (hs2.mono (by omega)) fun h=>by cases h)
 exact z02 (y4n hs2 (by omega) _ (by omega)) fun r6 h6=>hJ2 _ _ _ (h6.mono (by omega)) fun _=>by simpa using h
end Go.Proofs.YtkckjgkfljgjpaaGreatDoor
