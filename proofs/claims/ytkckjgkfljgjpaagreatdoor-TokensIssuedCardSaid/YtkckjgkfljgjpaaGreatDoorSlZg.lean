/- Plain: lines and words: strings split at a byte. -/
import Derived.Test.YtkckjgkfljgjpaaGreatDoorNbZg
import Derived.Test.YtkckjgkfljgjpaaGreatDoorSpZg
namespace Go.Proofs.YtkckjgkfljgjpaaGreatDoor
set_option linter.unusedVariables false
set_option linter.unusedSimpArgs false
set_option maxRecDepth 20000
theorem splN (c:UInt8):∀ s:Bs,c ∉ s→spl c s=[s]
 | [],_=>rfl
 | x::s,h=>by
  have h1:x≠c:=fun e=>h (by simp [e])
  have h2:=splN c s (fun e=>h (by simp [e]))
  unfold spl
  rw [if_neg h1,h2]
theorem splA (c:UInt8) (q:Bs):∀ p:Bs,c ∉ p→spl c (p++c::q)=p::spl c q
 | [],_=>by
  rw [List.nil_append]
  conv=>lhs; unfold spl
  rw [if_pos rfl]
 | x::p,h=>by
  have h1:x≠c:=fun e=>h (by simp [e])
  have h2:=splA c q p (fun e=>h (by simp [e]))
  rw [List.cons_append]
  conv=>lhs; unfold spl
  rw [if_neg h1,h2]
theorem y6m {c:UInt8}:∀ {s:Bs},c∈s→∃ p q,s=p++c::q∧c ∉ p
 | x::s,h=>by
  by_cases h1:c=x
  ·subst h1; exact ⟨[],s,rfl,by simp⟩
  ·obtain ⟨p,q,h2,h3⟩:=y6m (s:=s) (by simpa [h1] using h)
   exact ⟨x::p,q,by rw [h2]; rfl,by simp [h1,h3]⟩
theorem x3u (l:List Bs) (h:l.length≤1000000000):z3d l []=some (l.any fun x=>decide ([]=x)):=
 x2d (p:=fun x=>some (decide ([]=x))) l _ h fun x _=>rfl
theorem y83 (s:Bs) (c:UInt8) (h:s.length≤1000000):z2s s [c]=some (spl c s):=by
 unfold z2s
 rw [if_pos ⟨by omega,by simp⟩,y72]
theorem splB (c:UInt8):∀ (s:Bs) (p:Bs),p∈spl c s→c ∉ p
 | [],p,h=>by
  simp only [spl,List.mem_singleton] at h
  subst h; simp
 | x::s,p,h=>by
  unfold spl at h
  split at h
  ·rcases List.mem_cons.1 h with rfl | h
   ·simp
   ·exact splB c s p h
  ·rename_i hx
   cases hs:spl c s with
   | nil=>exact absurd hs (x0w c s)
   | cons q qs =>
    rw [hs] at h
    simp only at h
    rcases List.mem_cons.1 h with rfl | h
    ·have:=splB c s q (by rw [hs]; simp)
     intro hm
     rcases List.mem_cons.1 hm with hm | hm
     ·exact hx hm.symm
     ·exact this hm
    ·exact splB c s p (by rw [hs]; simp [h])
def txT (e:Bool):List Bs→Bs
 | []=>[]
 | [x]=>if e=true then x++[10] else x
 | x::y::l=>x++10::txT e (y::l)
theorem x1k (e:Bool) (x y:Bs) (l:List Bs):txT e (x::y::l)=x++10::txT e (y::l):=rfl
def lnS (t:Bs):List Bs×Bool:=if (spl 10 t).getLast?=some [] then ((spl 10 t).dropLast,true) else (spl 10 t,false)
theorem x70:∀ (ps:List Bs),ps≠[]→∀ t:Bs,spl 10 t=ps→t=if ps.getLast?=some [] then txT true ps.dropLast else txT false ps
 | [],h,_,_=>absurd rfl h
 | [p],_,t,ht=>by
  have ht2:10 ∉ t:=by
   intro hm
   obtain ⟨a,b,rfl,h2⟩:=y6m hm
   rw [splA 10 b a h2] at ht
   injection ht with h3 h4
   exact x0w 10 b h4
  rw [splN 10 t ht2] at ht
  injection ht with h3
  subst h3
  by_cases hp:t=[]
  ·subst hp; rfl
  ·simp [hp,txT]
 | p::q::ps,_,t,ht=>by
  have hm:10∈t:=by
   by_cases hm:10∈t
   ·exact hm
   ·rw [splN 10 t hm] at ht; cases ht
  obtain ⟨a,b,rfl,h2⟩:=y6m hm
  rw [splA 10 b a h2] at ht
  injection ht with h3 h4
  subst h3
  have ih:=x70 (q::ps) (by simp) b h4
  conv=>lhs; rw [ih]
  have e:(a::q::ps).getLast?=(q::ps).getLast?:=by simp [List.getLast?_cons_cons]
  rw [e]
  by_cases hl:(q::ps).getLast?=some []
  ·rw [if_pos hl,if_pos hl]
   cases ps with
   | nil =>
    have:q=[]:=by simpa using hl
    subst this
    simp [txT]
   | cons r rs=>simp only [List.dropLast_cons_cons,txT]
  ·rw [if_neg hl,if_neg hl]; rfl
theorem w14 (t:Bs) (hl:t.length≤1000000):y4f t=some (lnS t):=by
 unfold y4f lnS
 rw [y83 t 10 hl]
 simp only [Option.bind_some]
 have hw:=y41 10 t
 have hn:=x0w 10 t
 generalize spl 10 t=w at hw hn
 obtain ⟨l,p,hlp⟩:∃ l p,w=l++[p]:=⟨w.dropLast,w.getLast hn,(List.dropLast_concat_getLast hn).symm⟩
 subst hlp
 simp only [List.length_append,List.length_cons,List.length_nil] at hw
 have e1:wr (((l++[p]).length:Int) - 1)=(l.length:Int):=by
  simp only [List.length_append,List.length_cons,List.length_nil]
  rw [y1g (by omega)]
  omega
 have e2:at? (l++[p]) (l.length:Int)=some p:=by
  unfold at?
  rw [if_pos (by omega)]
  simp
 rw [e1,e2]
 simp only [Option.bind_some]
 by_cases hpe:p=[]
 ·subst hpe
  rw [if_pos (by simp),y7j _ _ (by simp),if_pos (by simp)]
  simp
 ·rw [if_neg (by simpa using hpe),if_neg (by simpa using hpe)]
theorem w0s (s:Bs) (hl:s.length≤1000000):y4e s=some (spl 32 s,!(spl 32 s).any fun x=>decide ([]=x)):=by
 unfold y4e
 rw [y83 s 32 hl]
 simp only [Option.bind_some]
 rw [x3u _ (by have:=y41 32 s; omega)]
 rfl
end Go.Proofs.YtkckjgkfljgjpaaGreatDoor
