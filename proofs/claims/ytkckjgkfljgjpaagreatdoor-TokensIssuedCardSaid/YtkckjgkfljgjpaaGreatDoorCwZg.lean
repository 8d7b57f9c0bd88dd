/- Plain: claims as text: written and read, both sides. -/
import Derived.Test.YtkckjgkfljgjpaaGreatDoorYdbZg
import Derived.Test.YtkckjgkfljgjpaaGreatDoorSlZg
namespace Go.Proofs.YtkckjgkfljgjpaaGreatDoor
set_option linter.unusedVariables false
set_option linter.unusedSimpArgs false
set_option linter.unusedSectionVars false
set_option maxRecDepth 20000
theorem y38 (n:Int) (h:0≤n∧n≤345686400000):(Lib.itoa n).length≤15∧z7a n=some (Lib.itoa n):=by
 refine ⟨?_,by unfold z7a; rw [if_pos (by omega)]⟩
 obtain ⟨u,rfl⟩:=Int.eq_ofNat_of_zero_le h.1
 have h1:=w4m 14 u (by omega)
 have h2:Lib.itoa (u:Int)=Lib.decDigits u:=by
  unfold Lib.itoa
  simp
 rw [h2]; omega
structure CWB (c:z0e):Prop where
 id:c.Id.length≤1000000
 subject:c.Subject.length≤1000000
 issuer:c.Issuer.length≤1000000
 parent:c.Parent.length≤1000000
 aud:c.Audience.length≤50∧∀ x,x∈c.Audience→x.length≤1000000
 sc:c.Scopes.length≤50∧∀ x,x∈c.Scopes→x.length≤1000000
 fr:0≤c.From∧c.From≤345686400000
 tu:0≤c.To∧c.To≤345686400000
theorem w0b {c:z0e} (h:ClB c) (h0:clF c=0):CWB c:=by
 unfold clF at h0
 split at h0
 ·simp at h0
 ·split at h0
  ·simp at h0
  ·rename_i ha
   split at h0
   ·rename_i h1; exact absurd h0 h1
   ·unfold tlF at h0
    split at h0
    ·rename_i h1; exact absurd h0 h1
    ·rename_i h1
     split at h0
     ·simp at h0
     ·split at h0
      ·simp at h0
      ·rename_i h3
       simp only [Bool.or_eq_true,decide_eq_true_eq] at h3
       have h1':=w6s (show scF c.Scopes=0 by simpa using h1)
       refine ⟨h.id,h.subject,h.issuer,h.parent,⟨by omega,h.aud.2⟩,⟨h1'.1,h.sc.2⟩,by omega,by omega⟩
def lnC (c:z0e):List Bs:=
 [[105,100,32]++c.Id,[115,117,98,106,101,99,116,32]++c.Subject,[105,115,115,117,101,114,32]++c.Issuer]++(if c.Parent≠[] then [[112,97,114,101,110,116,32]++c.Parent] else []) ++
 (if 0 < c.Audience.length then [[102,111,114,32]++Lib.join c.Audience [32]] else [])++(if 0 < c.Scopes.length then [[109,97,121,32]++Lib.join c.Scopes [32]] else [])++[(([116,105,109,101,32]++Lib.itoa c.From)++[32])++Lib.itoa c.To]
def txC (c:z0e):Bs:=(lnC c).flatMap (· ++ [10])
theorem x05:∀ (l:List Bs),l≠[]→Lib.join l [10]++[10]=l.flatMap (· ++ [10])
 | [],h=>absurd rfl h
 | [x],_=>by rw [Lib.join_one]; simp
 | x::y::l,_=>by
  have ih:=x05 (y::l) (by simp)
  rw [List.flatMap_cons,← ih,Lib.join_cons,Lib.join_cons]
  simp [Lib.joinTail]
section
variable {c:z0e} (h:CWB c)
include h
theorem audJ:(Lib.join c.Audience [32]).length≤50000050∧z3n c.Audience [32]=some (Lib.join c.Audience [32]):=by
 have h1:=y96 1000000 [32] c.Audience h.aud.2
 have h2:=h.aud.1
 have h3:c.Audience.length * (1000000+([32]:Bs).length)≤50 * 1000001:=Nat.mul_le_mul h2 (by simp)
 refine ⟨by omega,?_⟩
 unfold z3n
 rw [if_pos ⟨by omega,by omega⟩]
theorem scJ:(Lib.join c.Scopes [32]).length≤50000050∧z3n c.Scopes [32]=some (Lib.join c.Scopes [32]):=by
 have h1:=y96 1000000 [32] c.Scopes h.sc.2
 have h2:=h.sc.1
 have h3:c.Scopes.length * (1000000+([32]:Bs).length)≤50 * 1000001:=Nat.mul_le_mul h2 (by simp)
 refine ⟨by omega,?_⟩
 unfold z3n
 rw [if_pos ⟨by omega,by omega⟩]
theorem w5c (v:Bs) (hv:v.length≤200000000):z4m c v=some (if 4000 < (v++(((([116,105,109,101,32]++Lib.itoa c.From)++[32])++Lib.itoa c.To)++[10])).length then ([],2) else (v++(((([116,105,109,101,32]++Lib.itoa c.From)++[32])++Lib.itoa c.To)++[10]),0)):=by
 obtain ⟨f1,f2⟩:=y38 c.From h.fr
 obtain ⟨t1,t2⟩:=y38 c.To h.tu
 unfold z4m
 rw [f2,t2]
 simp only [Option.bind_some]
 rw [if_pos (by simp; omega),if_pos (by simp; omega),if_pos (by simp; omega),if_pos (by simp; omega),if_pos (by simp; omega)]
 by_cases hl:4000 < (v++(((([116,105,109,101,32]++Lib.itoa c.From)++[32])++Lib.itoa c.To)++[10])).length
 ·rw [if_pos hl,if_pos (decide_eq_true (by omega))]
 ·rw [if_neg hl,if_neg (by intro hh; exact hl (by have:=of_decide_eq_true hh; omega))]
def mayL (c:z0e):Bs:=if 0 < c.Scopes.length then ([109,97,121,32]++Lib.join c.Scopes [32])++[10] else []
def x2f (c:z0e):Bs:=if 0 < c.Audience.length then ([102,111,114,32]++Lib.join c.Audience [32])++[10] else []
def parL (c:z0e):Bs:=if c.Parent≠[] then ([112,97,114,101,110,116,32]++c.Parent)++[10] else []
theorem w5d (v:Bs):v.length≤120000000→z6p c v=z4m c (v++mayL c):=by
 intro hv
 unfold z6p mayL
 by_cases h0:0 < c.Scopes.length
 ·obtain ⟨f1,f2⟩:=scJ h
  rw [if_pos (by simpa using h0),f2,if_pos h0]
  simp only [Option.bind_some]
  rw [if_pos (by simp; omega),if_pos (by simp; omega),if_pos (by simp; omega)]
 ·rw [if_neg (by simpa using h0),if_neg h0,List.append_nil]
theorem w10:(mayL c).length≤50000060:=by
 unfold mayL
 split
 ·have:=(scJ h).1; simp; omega
 ·simp
theorem x6g:(x2f c).length≤50000060:=by
 unfold x2f
 split
 ·have:=(audJ h).1; simp; omega
 ·simp
theorem w5e (v:Bs):v.length≤60000000→z5u c v=z4m c (v++x2f c++mayL c):=by
 intro hv
 have hfl:=x6g h
 rw [← w5d h (v++x2f c) (by simp; omega)]
 unfold z5u x2f
 by_cases h0:0 < c.Audience.length
 ·obtain ⟨f1,f2⟩:=audJ h
  rw [if_pos (by simpa using h0),f2,if_pos h0]
  simp only [Option.bind_some]
  rw [if_pos (by simp; omega),if_pos (by simp; omega),if_pos (by simp; omega)]
 ·rw [if_neg (by simpa using h0),if_neg h0,List.append_nil]
def hdC (c:z0e):Bs:=((((([105,100,32]++c.Id)++[10,115,117,98,106,101,99,116,32])++c.Subject)++[10,105,115,115,117,101,114,32])++c.Issuer)++[10]
theorem w2m:txC c=hdC c++parL c++x2f c++mayL c++(((([116,105,109,101,32]++Lib.itoa c.From)++[32])++Lib.itoa c.To)++[10]):=by
 unfold txC lnC hdC parL x2f mayL
 by_cases h1:c.Parent=[] <;> by_cases h2:0 < c.Audience.length <;> by_cases h3:0 < c.Scopes.length <;> simp [h1,h2,h3]
theorem w0w (h0:clF c=0) (hc:ClB c):z57 c=some (if 4000 < (txC c).length then ([],2) else (txC c,0)):=by
 have a1:=h.id; have a2:=h.subject; have a3:=h.issuer; have a4:=h.parent
 unfold z57
 rw [w0a c hc,h0]
 simp only [Option.bind_some]
 rw [if_neg (by simp),if_pos (by simp; omega),if_pos (by simp; omega),if_pos (by simp; omega),if_pos (by simp; omega),if_pos (by simp; omega),if_pos (by simp; omega)]
 have hd:(hdC c).length≤3000030:=by unfold hdC; simp; omega
 have hp:(parL c).length≤1000010:=by
  unfold parL
  split
  ·simp; omega
  ·simp
 have hm:=w10 h
 have hf:=x6g h
 have fin:z5u c (hdC c++parL c)=some (if 4000 < (txC c).length then ([],2) else (txC c,0)):=by
  rw [w5e h _ (by simp; omega),w5c h _ (by simp; omega),w2m h]
 by_cases hpar:c.Parent=[]
 ·rw [if_neg (by simpa using hpar)]
  have e:parL c=[]:=by unfold parL; rw [if_neg (not_not_intro hpar)]
  rw [e,List.append_nil] at fin
  exact fin
 ·rw [if_pos (by simpa using hpar),if_pos (by simp; omega),if_pos (by simp; omega),if_pos (by simp; omega)]
  have e:parL c=([112,97,114,101,110,116,32]++c.Parent)++[10]:=by unfold parL; rw [if_pos hpar]
  rw [e] at fin
  exact fin
theorem x9a (l:List Bs) (hl:l.length≤10∧∀ x,x∈l→x.length≤50000100):z4v c l=some ((l++[(([116,105,109,101,32]++Lib.itoa c.From)++[32])++Lib.itoa c.To]).flatMap (· ++ [10])):=by
 obtain ⟨f1,f2⟩:=y38 c.From h.fr
 obtain ⟨t1,t2⟩:=y38 c.To h.tu
 unfold z4v
 rw [f2,t2]
 simp only [Option.bind_some]
 rw [if_pos (by simp; omega),if_pos (by simp; omega),if_pos (by simp; omega),if_pos (by omega)]
 have hj:(Lib.join (l++[(([116,105,109,101,32]++Lib.itoa c.From)++[32])++Lib.itoa c.To]) [10]).length≤600000000:=by
  have:=y96 50000100 [10] (l++[(([116,105,109,101,32]++Lib.itoa c.From)++[32])++Lib.itoa c.To]) (fun x hx=>by
   rcases List.mem_append.1 hx with hx | hx
   ·exact hl.2 x hx
   ·simp only [List.mem_singleton] at hx
    rw [hx]; simp; omega)
  have h3:(l++[(([116,105,109,101,32]++Lib.itoa c.From)++[32])++Lib.itoa c.To]).length * (50000100+([10]:Bs).length)≤11 * 50000101:=Nat.mul_le_mul (by simp; omega) (by simp)
  omega
 unfold z3n
 rw [if_pos ⟨by simp; omega,by omega⟩]
 simp only [Option.bind_some]
 rw [if_pos (by rw [List.length_singleton]; omega),x05 _ (by simp)]
theorem y91:z5g c=some (txC c):=by
 have a1:=h.id; have a2:=h.subject; have a3:=h.issuer; have a4:=h.parent
 obtain ⟨s1,s2⟩:=scJ h
 obtain ⟨d1,d2⟩:=audJ h
 have J2:∀ l:List Bs,(l.length≤9∧∀ x,x∈l→x.length≤50000100)→z4w c l=some (((l++if 0 < c.Scopes.length then [[109,97,121,32]++Lib.join c.Scopes [32]] else [])++[(([116,105,109,101,32]++Lib.itoa c.From)++[32])++Lib.itoa c.To]).flatMap (· ++ [10])):=fun l hl=>by
  unfold z4w
  by_cases h0:0 < c.Scopes.length
  ·rw [if_pos (by simpa using h0),s2,if_pos h0]
   simp only [Option.bind_some]
   rw [if_pos (by simp; omega),if_pos (by omega)]
   exact x9a h _ ⟨by simp; omega,fun x hx=>by
    rcases List.mem_append.1 hx with hx | hx
    ·exact hl.2 x hx
    ·simp only [List.mem_singleton] at hx
     rw [hx]; simp; omega⟩
  ·rw [if_neg (by simpa using h0),if_neg h0,List.append_nil]
   exact x9a h _ ⟨by omega,hl.2⟩
 have J1:∀ l:List Bs,(l.length≤8∧∀ x,x∈l→x.length≤50000100)→z4x c l=some ((((l++if 0 < c.Audience.length then [[102,111,114,32]++Lib.join c.Audience [32]] else [])++if 0 < c.Scopes.length then [[109,97,121,32]++Lib.join c.Scopes [32]] else [])++[(([116,105,109,101,32]++Lib.itoa c.From)++[32])++Lib.itoa c.To]).flatMap (· ++ [10])):=fun l hl=>by
  unfold z4x
  by_cases h0:0 < c.Audience.length
  ·rw [if_pos (by simpa using h0),d2,if_pos h0]
   simp only [Option.bind_some]
   rw [if_pos (by simp; omega),if_pos (by omega)]
   exact J2 _ ⟨by simp; omega,fun x hx=>by
    rcases List.mem_append.1 hx with hx | hx
    ·exact hl.2 x hx
    ·simp only [List.mem_singleton] at hx
     rw [hx]; simp; omega⟩
  ·rw [if_neg (by simpa using h0),if_neg h0,List.append_nil]
   exact J2 _ ⟨by omega,hl.2⟩
 unfold z5g
 rw [if_pos (by simp; omega),if_pos (by simp; omega),if_pos (by simp; omega)]
 have hb:∀ x,x∈([([105,100,32]++c.Id),([115,117,98,106,101,99,116,32]++c.Subject),([105,115,115,117,101,114,32]++c.Issuer)]:List Bs)→x.length≤50000100:=fun x hx=>by
  simp only [List.mem_cons,List.not_mem_nil,or_false] at hx
  rcases hx with rfl | rfl | rfl <;> (simp; omega)
 by_cases hpar:c.Parent=[]
 ·rw [if_neg (by simpa using hpar),J1 _ ⟨by simp,hb⟩]
  unfold txC lnC
  rw [if_neg (not_not_intro hpar)]
  simp
 ·rw [if_pos (by simpa using hpar),if_pos (by simp; omega),if_pos (by simp),J1 _ ⟨by simp,fun x hx=>by
   rcases List.mem_append.1 hx with hx | hx
   ·exact hb x hx
   ·simp only [List.mem_singleton] at hx
    rw [hx]; simp; omega⟩]
  unfold txC lnC
  rw [if_pos hpar]
end
theorem w6q (c:z0e) (h:ClB c):z57 c=some (if clF c≠0 then ([],clF c) else if 4000 < (txC c).length then ([],2) else (txC c,0)):=by
 by_cases h0:clF c=0
 ·rw [w0w (w0b h h0) h0 h,if_neg (not_not_intro h0)]
 ·unfold z57
  rw [w0a c h]
  simp only [Option.bind_some]
  rw [if_pos (by simpa using h0),if_pos h0]
theorem w6p (c:z0e) (h:ClB c):z5p c=some (if clF c≠0 then ([],clF c) else if 4000 < (txC c).length then ([],2) else (txC c,0)):=by
 unfold z5p
 rw [w2y c h]
 simp only [Option.bind_some]
 by_cases h0:clF c=0
 ·rw [if_neg (by simpa using h0),if_neg (not_not_intro h0),y91 (w0b h h0)]
  simp only [Option.bind_some]
  by_cases hl:4000 < (txC c).length
  ·rw [if_pos hl,if_pos (decide_eq_true (by omega))]
  ·rw [if_neg hl,if_neg (by intro hh; exact hl (by have:=of_decide_eq_true hh; omega))]
 ·rw [if_pos (by simpa using h0),if_pos h0]
end Go.Proofs.YtkckjgkfljgjpaaGreatDoor
