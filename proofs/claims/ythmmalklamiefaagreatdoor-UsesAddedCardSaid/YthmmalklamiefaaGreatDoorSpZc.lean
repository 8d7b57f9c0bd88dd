/- Plain: strings.Split at one byte, sorted lists of strings, slices.Compact, slices.DeleteFunc. No program. -/
import Derived.Test.YthmmalklamiefaaGreatDoorOkZc
namespace Go.Proofs.YthmmalklamiefaaGreatDoor
set_option linter.unusedVariables false
set_option maxRecDepth 20000
def spl (c:UInt8):Bs→List Bs
 | []=>[[]]
 | b::l=>if b=c then []::spl c l else match spl c l with
  | p::ps=>(b::p)::ps
  | []=>[[b]]
theorem w15 (c b:UInt8) (l:Bs):Lib.index (b::l) [c]=if b=c then 0 else if Lib.index l [c] == -1 then -1 else Lib.index l [c]+1:=by
 rw [Lib.index]
 by_cases h:b=c
 ·subst h; simp
 ·have hb:(c == b)=false:=by simpa using fun e:c=b=>h e.symm
  have:List.isPrefixOf [c] (b::l)=false:=by simp [List.isPrefixOf,hb]
  rw [this,if_neg h]; rfl
theorem x5p (c:UInt8):∀ s:Bs,Lib.splitK [c] 0 (Lib.count s [c]) s=spl c s
 | []=>by
  rw [Lib.count_miss (by rfl)]
  rfl
 | b::l=>by
  have ih:=x5p c l
  have hi:=w15 c b l
  by_cases h:b=c
  ·rw [if_pos h] at hi
   rw [Lib.count_hit (i:=0) (by simp) (by simpa using hi),Nat.add_comm,Lib.splitK,if_neg (by rw [hi]; decide),hi,spl,if_pos h]
   simp only [Int.toNat_zero,Nat.zero_add,List.length_cons,List.length_nil,Nat.add_zero,List.take_zero,List.drop_succ_cons,List.drop_zero,ih]
  ·rw [if_neg h] at hi
   have hs:spl c (b::l)=match spl c l with | p::ps=>(b::p)::ps | []=>[[b]]:=by rw [spl,if_neg h]
   have hge:=Lib.index_ge l [c]
   by_cases h1:Lib.index l [c]=-1
   ·rw [if_pos (by simpa using h1)] at hi
    rw [Lib.count_miss h1] at ih
    have ih:[l]=spl c l:=ih
    rw [Lib.count_miss hi,hs,← ih]
    rfl
   ·obtain ⟨i,h2⟩:∃ i:Nat,Lib.index l [c]=i:=⟨(Lib.index l [c]).toNat,by omega⟩
    rw [if_neg (by simpa using h1),h2] at hi
    have hi':Lib.index (b::l) [c]=((i+1:Nat):Int):=by rw [hi]; omega
    rw [Lib.count_hit (i:=i) (by simp) h2,Nat.add_comm,Lib.splitK,if_neg (by rw [h2]; simp),h2] at ih
    rw [Lib.count_hit (i:=i+1) (by simp) hi',Nat.add_comm,Lib.splitK,if_neg (by rw [hi']; simp; omega),hi',hs,← ih]
    simp
theorem x3c (s:Bs) (c:UInt8):y8x s [c]=spl c s:=by
 unfold y8x
 rw [Lib.splitB_data]
 exact x5p c s
theorem x61 (c:UInt8):∀ s:Bs,(spl c s).length≤s.length+1
 | []=>by simp [spl]
 | b::l=>by
  have ih:=x61 c l
  unfold spl
  split
  ·simp only [List.length_cons]; omega
  ·split
   ·rename_i p ps h; rw [h] at ih; simp only [List.length_cons] at ih ⊢; omega
   ·simp
theorem x1x (c:UInt8):∀ (s:Bs) (p:Bs),p∈spl c s→p.length≤s.length
 | [],p,h=>by simp [spl] at h; subst h; simp
 | b::l,p,h=>by
  have ih:=x1x c l
  unfold spl at h
  split at h
  ·rcases List.mem_cons.1 h with rfl | h
   ·simp
   ·have:=ih p h; simp only [List.length_cons]; omega
  ·split at h
   ·rename_i q ps hq
    rw [hq] at ih
    rcases List.mem_cons.1 h with rfl | h
    ·have:=ih q (by simp); simp only [List.length_cons]; omega
    ·have:=ih p (List.mem_cons_of_mem _ h); simp only [List.length_cons]; omega
   ·simp at h; subst h; simp
abbrev w9d (l:List Bs):List Bs:=l.mergeSort fun x y=>decide (x≤y)
abbrev Rise (l:List Bs):Prop:=l.Pairwise fun x y=>x < y
section
variable {α:Type} [Inhabited α] [DecidableEq α]
end
def setB (l:List Bs):List Bs:=Lib.compact (w9d l)
noncomputable def gDel {α:Type} (z:α) (s1:List α) (p1:α→Option Bool):Option (List α):=
 (gIdx s1 p1).bind fun (r2:Int)=>if decide (r2=(-1)) then some s1 else (iter (fun (s:Int×Int×(List α))=>if decide (s.2.1 < (s.2.2.length:Int)) then ((at? s.2.2 s.2.1).bind fun (x10:α)=>(p1 x10).bind fun (r12:Bool)=>if !r12 then ((at? s.2.2 s.1).bind fun (x15:α)=>some (.inl (wr (s.1+1),wr (s.2.1+1),(s.2.2.set s.1.toNat x10)))) else some (.inl (s.1,wr (s.2.1+1),s.2.2))) else (Option.map .inr (if (0:Int)≤s.1∧s.1 < (s.2.2.length:Int) then (if (0:Int)≤s.1∧s.1≤((s.2.2.take s.1.toNat++List.replicate (s.2.2.length - s.1.toNat) z).length:Int) then (some ((s.2.2.take s.1.toNat++List.replicate (s.2.2.length - s.1.toNat) z).take s.1.toNat)) else none) else none))) (r2,wr (r2+1),s1))
end Go.Proofs.YthmmalklamiefaaGreatDoor
