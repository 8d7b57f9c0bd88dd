/- Plain: keys: the program and the reference agree. -/
import Derived.Test.YtihjlkocfeoelaaGreatDoorStZe
namespace Go.Proofs.YtihjlkocfeoelaaGreatDoor
set_option linter.unusedVariables false
set_option maxRecDepth 20000
def kc (i:Nat) (c:UInt8):Bool:=((decide (97≤(c.toNat:Int))) && (decide ((c.toNat:Int)≤122))) || ((decide (0 < (i:Int))) && ((((decide (48≤(c.toNat:Int))) && (decide ((c.toNat:Int)≤57))) || (decide ((c.toNat:Int)=45))) || (decide ((c.toNat:Int)=95))))
def keyP (s:Bs):Bool:=allI kc 0 s && (decide (s≠[]) && decide ((s.length:Int)≤40))
theorem y1d (s:Bs) (h:s.length≤1000000000):z6i s=some (keyP s):=by
 unfold z6i
 rw [if_pos h,z9i (p:=kc) (r0:=false) (e:=(decide (s≠[])) && (decide ((s.length:Int)≤40))) rfl s 0]
 ·congr 1
  unfold keyP
  cases allI kc 0 s <;> simp
 ·intro j x _ _
  unfold z95
  show (if (!kc j x)=true then _ else _)=_
  cases kc j x <;> simp
def y3h:Bs:=[97,98,99,100,101,102,103,104,105,106,107,108,109,110,111,112,113,114,115,116,117,118,119,120,121,122]
def x06:Bs:=[97,98,99,100,101,102,103,104,105,106,107,108,109,110,111,112,113,114,115,116,117,118,119,120,121,122,48,49,50,51,52,53,54,55,56,57,45,95]
theorem y36 (p:UInt8→Bool) (h:((List.range 256).all fun n=>p (UInt8.ofNat n))=true) (c:UInt8):p c=true:=by
 have:=List.all_eq_true.1 h c.toNat (by simp; exact c.toNat_lt)
 simpa using this
theorem x0h (c:UInt8):y3h.contains c=kc 0 c:=by
 have:=y36 (fun c=>y3h.contains c == kc 0 c) (by decide +kernel) c
 simpa using this
theorem x5u (c:UInt8):x06.contains c=kc 1 c:=by
 have:=y36 (fun c=>x06.contains c == kc 1 c) (by decide +kernel) c
 simpa using this
theorem x68 (k:Nat) (c:UInt8):kc (k+1) c=kc 1 c:=by
 unfold kc
 have:decide (0 < ((k+1:Nat):Int))=decide (0 < ((1:Nat):Int)):=by
  rw [decide_eq_true (by omega),decide_eq_true (by omega)]
 rw [this]
theorem x70 (c:UInt8) (h:kc 0 c=true):kc 1 c=true:=by unfold kc at *; simp at h ⊢; exact .inl h
theorem x7j (s:Bs):∀ k,allI kc (k+1) s=s.all fun c=>kc 1 c:=by
 induction s with
 | nil=>intro k; rfl
 | cons c s ih=>intro k; simp only [allI,List.all_cons,x68,ih]
theorem y7b (s so:Bs) (h:s.length≤1000000000):z5d s so=some (s.all fun c=>so.contains c):=by
 unfold z5d
 rw [if_pos h,z9i (p:=fun _ c=>so.contains c) (r0:=false) (e:=true) rfl s 0]
 ·congr 1
  have:∀ (l:Bs) k,allI (fun _ c=>so.contains c) k l=l.all fun c=>so.contains c:=by
   intro l
   induction l with
   | nil=>intro k; rfl
   | cons c l ih=>intro k; simp only [allI,List.all_cons,ih]
  rw [this]
  cases (s.all fun c=>so.contains c) <;> rfl
 ·intro j x _ _
  unfold z77 z79
  simp only [Option.bind_some]
  have e1:((x.toNat:Int)).toNat.toUInt8=x:=by simp
  rw [e1,Lib.contains_iff_indexByte]
  by_cases hq:Lib.indexByte so x < 0
  ·have:¬ 0≤Lib.indexByte so x:=by omega
   simp [hq,this]
  ·have:0≤Lib.indexByte so x:=by omega
   simp [hq,this]
theorem y4k (s:Bs) (h:s.length≤1000000000):z4p s=some (keyP s):=by
 unfold z4p z9f z55
 simp only [Option.bind_some]
 cases s with
 | nil=>simp [keyP]
 | cons c r =>
  by_cases h1:((c::r).length:Int)≤40
  ·have h2:(decide ((1:Int)≤((c::r).length:Int)) && decide (((c::r).length:Int)≤40))=true:=by simp only [List.length_cons] at h1 ⊢; simp; omega
   rw [if_pos h2]
   have h3:sub? (c::r) 0 1=some [c]:=by
    unfold sub?
    rw [if_pos (by simp only [List.length_cons]; omega)]
    rfl
   rw [h3]
   have e1:=y7b [c] y3h (by simp)
   have e2:=y7b (c::r) x06 h
   simp only [y3h,x06] at e1 e2
   simp only [Option.bind_some,e1,e2]
   have e3:(List.all [c] fun c=>List.contains [97,98,99,100,101,102,103,104,105,106,107,108,109,110,111,112,113,114,115,116,117,118,119,120,121,122] c)=kc 0 c:=by
    have:=x0h c
    simp only [y3h] at this
    simp only [List.all_cons,List.all_nil,Bool.and_true,this]
   have e4:(List.all (c::r) fun c=>List.contains [97,98,99,100,101,102,103,104,105,106,107,108,109,110,111,112,113,114,115,116,117,118,119,120,121,122,48,49,50,51,52,53,54,55,56,57,45,95] c)=(kc 1 c && r.all fun c=>kc 1 c):=by
    have:=x5u
    simp only [x06] at this
    simp only [List.all_cons,this]
   rw [e3,e4]
   have e5:keyP (c::r)=(kc 0 c && r.all fun c=>kc 1 c):=by
    unfold keyP
    simp only [allI,x7j,Nat.zero_add]
    have:decide (((c::r).length:Int)≤40)=true:=by simpa using h1
    rw [this]; simp
   rw [e5]
   cases hk:kc 0 c
   ·simp
   ·rw [x70 c hk]; simp
  ·have h2:(decide ((1:Int)≤((c::r).length:Int)) && decide (((c::r).length:Int)≤40))=false:=by
    have:decide (((c::r).length:Int)≤40)=false:=by simpa using h1
    rw [this]; simp
   rw [h2]
   have:decide (((c::r).length:Int)≤40)=false:=by simpa using h1
   have e5:keyP (c::r)=false:=by unfold keyP; rw [this]; simp
   rw [e5]; rfl

def momP (n:Int):Bool:=decide (0≤n) && decide (n≤345686399999)
end Go.Proofs.YtihjlkocfeoelaaGreatDoor
