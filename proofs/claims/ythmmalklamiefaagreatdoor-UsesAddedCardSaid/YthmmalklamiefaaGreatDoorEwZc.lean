/- Plain: subscriptions at a moment, both sides: SubAt, Waiting, Scopes. -/
import Derived.Test.YthmmalklamiefaaGreatDoorEsZc
import Derived.Test.YthmmalklamiefaaGreatDoorEoZc
import Derived.Test.YthmmalklamiefaaGreatDoorVbZc
namespace Go.Proofs.YthmmalklamiefaaGreatDoor
set_option linter.unusedVariables false
set_option linter.unusedSimpArgs false
set_option linter.unusedSectionVars false
set_option maxRecDepth 20000
theorem w3j (b:Bool) (e:Int):z9i b e=some (if b=true then e else 0):=by
 unfold z9i
 cases b <;> rfl
def moF (v:Int):Int:=if momP v=true then 0 else 1
theorem w8k (v:Int):z95 v=some (moF v):=by
 unfold z95 moF
 rw [x2i]
 simp only [Option.bind_some]
 cases momP v <;> rfl
theorem w8l (v:Int):z65 v=some (moF v):=by
 unfold z65 moF
 rw [x5z]
 simp only [Option.bind_some,w3j]
 cases momP v <;> rfl
theorem x4o {v:Int} (h:moF v=0):0≤v:=by
 unfold moF momP at h
 split at h
 ·rename_i h1
  simp at h1; omega
 ·simp at h
def wtP (st:Bs→Bs→z0o) (x:z0f):Bool:=(decide (x.Kind=1) && decide ((st x.App x.Product).State=1)) && decide ((st x.App x.Product).Since=x.At)
def wtI (st:Bs→Bs→z0o):Nat→List z0f→List Int
 | _,[]=>[]
 | k,x::l=>if wtP st x=true then (k:Int)::wtI st (k+1) l else wtI st (k+1) l
noncomputable def askI (m5:List (z0u×Int)):List (z0u×z0o)→List Int
 | []=>[]
 | q::p=>if q.2.State=1 then (lkG m5 q.1).getD 0::askI m5 p else askI m5 p
def acS (st:Bs→Bs→z0o) (a:Bs) (l:List z0r):List Bs:=l.flatMap fun x=>if (st a x.Key).State=2 then x.Scopes else []
def scR (l:List Bs):List Bs×Int:=if 50 < l.length then ([],2) else (lsP l,0)
section
variable {c:z0i} {apps:List z0s} {l:List z0f} (hb:CB c) (ha:AB apps) (hl:∀ x,x∈l→EB x)
include hb ha hl
theorem atM (v:Int) (h0:eF c apps l=0):∃ m4 m5 l6,y0l c l v=some (z3a.mk m4 m5,l6)∧bk m4=runS c (fun _ _=>y26) (cutT v l)∧BI c l l.length m4 m5:=by
 obtain ⟨⟨e1,e2,e3⟩,e4,e5⟩:=x7r h0
 exact w7l (apps:=apps) hb e1 l (fun x hx=>⟨e4 x hx,hl x hx⟩) (by omega)
theorem w5n (a p:Bs) (v:Int) (h0:eF c apps l=0) (hv:0≤v):y07 c l a p v=some (runS c (fun _ _=>y26) (cutT v l) a p):=by
 obtain ⟨⟨e1,e2,e3⟩,e4,e5⟩:=x7r h0
 exact w3s (apps:=apps) hb e1 hv l e4 (w6s e5) (by omega) a p
end
theorem x9y {k:Int} {s:z0d} (h:SB k s) (hk:k≤100000):Ok (z5c s) fun r=>SB (k+3) r.2:=by
 unfold z5c
 refine z1c (y4c h (by omega) _ ⟨by simp,by simp⟩) fun r2 h2=>z1c (y4c h2.2 (by omega) _ ⟨by simp,by simp⟩) fun r4 h4=>z1c (y4c h4.2 (by omega) _ ⟨by simp,by simp⟩) fun r6 h6=>z13 (h6.2.mono (by omega))
theorem w28 {k:Int} {s:z0d} (h:SB k s) (hk:k≤100000):Ok (z4v s) fun r=>r.1.length≤100∧SB (k+1) r.2:=by
 unfold z4v
 refine z1c (y2x h (by omega) _ ⟨by simp,by simp⟩) fun r2 h2=>z13 ⟨?_,h2.2⟩
 have h1:=h2.1
 simp only [List.mem_cons,List.not_mem_nil,or_false] at h1
 rcases h1 with h1 | h1 | h1 | h1 | h1 | h1 <;> rw [h1] <;> simp
theorem x9u {k:Int} {s:z0d} (h:SB k s) (hk:k≤100000):Ok (z3m s) fun r=>r.1.length≤100∧SB (k+1) r.2:=by
 unfold z3m
 refine z1c (y2x h (by omega) _ ⟨by simp,by simp⟩) fun r2 h2=>z13 ⟨?_,h2.2⟩
 have h1:=h2.1
 simp only [List.mem_cons,List.not_mem_nil,or_false] at h1
 rcases h1 with h1 | h1 | h1 | h1 | h1 <;> rw [h1] <;> simp
theorem y51 {a b:Int}:or2 a b=0↔a=0∧b=0:=by
 unfold or2
 split
 ·rename_i h
  exact ⟨fun k=>absurd k h,fun k=>absurd k.1 h⟩
 ·rename_i h
  exact ⟨fun k=>⟨by simpa using h,k⟩,fun k=>k.2⟩
end Go.Proofs.YthmmalklamiefaaGreatDoor
