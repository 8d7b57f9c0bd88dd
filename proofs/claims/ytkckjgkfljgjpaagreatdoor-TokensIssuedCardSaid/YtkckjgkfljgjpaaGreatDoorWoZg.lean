/- Plain: loops turn by turn, strings and their bytes as numbers, words joined, strings cut at a byte, trimming. -/
import Derived.Test.YtkckjgkfljgjpaaGreatDoorStZg
import Derived.Test.YtkckjgkfljgjpaaGreatDoorSpZg
namespace Go.Proofs.YtkckjgkfljgjpaaGreatDoor
set_option linter.unusedVariables false
set_option maxRecDepth 20000
section
variable {σ ρ:Type}
theorem y0p {body:σ→Option (σ ⊕ ρ)} {s s':σ} (h:body s=some (.inl s')):iter body s=iter body s':=by
 rw [y97,h]; rfl
theorem y35 {body:σ→Option (σ ⊕ ρ)} {s:σ} {r:ρ} (h:body s=some (.inr r)):iter body s=some r:=by
 rw [y97,h]; rfl
end
theorem x6y (l:Bs):strN (y0v l)=l:=by
 unfold strN y0v
 rw [List.map_map]
 conv=>rhs; rw [← List.map_id l]
 refine List.map_congr_left fun c _ => ?_
 simp
theorem w1z (l:Bs):(y0v l).length=l.length:=by simp [y0v]
theorem y96 (B:Nat) (sep:Bs):∀ l:List Bs,(∀ x,x∈l→x.length≤B)→(Lib.join l sep).length≤l.length * (B+sep.length)
 | [],_=>by simp [Lib.join_nil]
 | x::r,h=>by
  rw [Lib.join_cons,List.length_append]
  have h1:=h x (by simp)
  have h2:(Lib.joinTail sep r).length≤r.length * (B+sep.length):=by
   have:∀ r:List Bs,(∀ x,x∈r→x.length≤B)→(Lib.joinTail sep r).length≤r.length * (B+sep.length):=by
    intro r
    induction r with
    | nil=>intro _; simp [Lib.joinTail]
    | cons y r ih =>
     intro hr
     have h3:=hr y (by simp)
     have h4:=ih fun z hz=>hr z (by simp [hz])
     unfold Lib.joinTail at h4 ⊢
     simp only [List.map_cons,List.flatten_cons,List.length_append,List.length_cons,Nat.succ_mul]
     omega
   exact this r fun y hy=>h y (by simp [hy])
  simp only [List.length_cons,Nat.succ_mul]
  omega
theorem w2u (c:UInt8):∀ s:Bs,c ∉ s→Lib.index s [c]=-1
 | [],_=>rfl
 | x::s,h=>by
  rw [y7v,if_neg (fun e=>h (by simp [e])),w2u c s (fun e=>h (by simp [e]))]
  try rfl
theorem x9n (c:UInt8) (q:Bs):∀ p:Bs,c ∉ p→Lib.index (p++c::q) [c]=(p.length:Int)
 | [],_=>by rw [List.nil_append,y7v,if_pos rfl]; rfl
 | x::p,h=>by
  rw [List.cons_append,y7v,if_neg (fun e=>h (by simp [e])),x9n c q p (fun e=>h (by simp [e])),if_neg (by simp)]
  simp
theorem w2x (c:UInt8) (s:Bs) (h:c ∉ s):Lib.cut s [c]=(s,[],false):=by
 unfold Lib.cut
 rw [w2u c s h]; rfl
theorem x2i (c:UInt8) (p q:Bs) (h:c ∉ p):Lib.cut (p++c::q) [c]=(p,q,true):=by
 unfold Lib.cut
 rw [x9n c q p h,if_pos (by omega)]
 simp
def trR (c:UInt8) (s:Bs):Bs:=(s.reverse.dropWhile (· == c)).reverse
def trL (c:UInt8) (s:Bs):Bs:=s.dropWhile (· == c)
end Go.Proofs.YtkckjgkfljgjpaaGreatDoor
