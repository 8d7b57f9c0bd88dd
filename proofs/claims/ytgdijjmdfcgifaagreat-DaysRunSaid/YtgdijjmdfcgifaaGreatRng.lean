/- The abstract machine: a range over slices.Backward: the round's frame, the loop's record, the mark among the deferred calls; functions that hold one such range. -/
import Derived.Test.YtgdijjmdfcgifaaGreatMc
import Derived.RangeFuncNested
import Derived.RangeFuncLeaves
namespace Go.Proofs.YtgdijjmdfcgifaaGreat
open Go.RowKit
set_option linter.unusedVariables false

section plain
variable {α σ ρ:Type}
end plain

section
variable {P:Program} {f:Nat→Slot} {dst:Option Tmp} {ty:TypeId} {pos:String} {af:Array Edge} {gd:Option (Nat×Bool)}
end

def boxB:AObj→Bool
 | .box _ _ _=>true
 | .row _ _ _=>true
 | _=>false
def blks (g:Gh) (lo:List (Nat×AObj)):List Nat:=lo.filterMap fun p=>obk g p.1 p.2
abbrev Bx:=List (Nat×AObj)
def anB (a:Nat):AObj→AObj
 | .box _ t cs => .box (some a) t cs
 | o=>o
def mkB (A:Nat→Nat) (l:Bx):List (Nat×AObj):=l.map fun p=>(p.1,anB (A p.1) p.2)
section
variable {P:Program} {X:Ctx} {f:Nat→Slot} {own:Own} {rs:List ResultVar} {us:List V}
structure RB (X:Ctx) (lf:List (Nat×Slot)) (A:Nat→Nat) (g:Gh) (l0:Bx) (a:Act) (w:World) (lB:Bx) (g':Gh) (W:World):Prop where
 rel:Rel X (frs lf) (ows (mkB A lB)) g' a W
 sz:w.heap.size≤W.heap.size
 st:∀ b,b < w.heap.size→b ∉ blks g (mkB A l0)→(∃ o,w.heap[b]?=some o∧y6v o=true)→W.heap[b]?=w.heap[b]?
 mn:∀ id o b,ows (mkB A lB) id=some (some o)→obk g' id o=some b→b∈blks g (mkB A l0)∨w.heap.size≤b
 bx:lB.all (fun p=>boxB p.2)=true
section
variable {lf:List (Nat×Slot)} {A:Nat→Nat} {g g':Gh} {l0 lB lB':Bx} {a:Act} {w W:World}
end

section
variable {α σ ρ:Type} {b:Nat} {gop:Operand} {p0 p1:Tmp} {asg bdy y:Code} {C:α→List V} {l:List α} {gf:Nat} {body:Nat→α→σ→Option (σ ⊕ ρ)} {fin:σ→Option ρ} {s0:σ} {r:ρ} {o:Bool}
end
end
theorem x5m {P:Program} {X:Ctx} {ops:Array Oper} {Q:Exit→Act→World→Prop} (hN:xw X.N ops=true) :
  ∀ (os rest:List Oper) (i:Nat) (f:Nat→Slot) (own:Own) (lg:List (List Nat×List Nat)) (g:Gh) (a:Act) (w:World),ops.toList.drop i=os++rest→Rel X f own g a w →
   seqA P ops os f own lg (fun f' own' _=>∀ g a w,Rel X f' own' g a w→wpOpsIn (FR X.R) 0 P ops Q (List.range' (i+os.length) rest.length) a w) →
   wpOpsIn (FR X.R) 0 P ops Q (List.range' i (os.length+rest.length)) a w:=by
 intro os
 induction os with
 | nil=>intro rest i f own lg g a w _ hr h; simpa using h g a w hr
 | cons o os ih =>
  intro rest i f own lg g a w hos hr h
  have hlt:i < ops.size:=by
   have h2:=congrArg List.length hos
   simp only [List.length_drop,List.length_cons,List.length_append,Array.length_toList] at h2
   omega
  have h2:=List.drop_eq_getElem_cons (l:=ops.toList) (i:=i) (by simpa using hlt)
  rw [hos] at h2
  injection h2 with h3 h4
  have hoi:ops[i]?=some o:=by
   rw [Array.getElem?_eq_getElem hlt]
   exact congrArg some h3.symm
  obtain ⟨T,⟨hgd,hrun,hskip,_⟩,h6⟩:=h
  obtain ⟨hdN,hdf⟩:=z1o hN hoi
  rw [List.length_cons,show os.length+1+rest.length=(os.length+rest.length)+1 by omega,List.range'_succ,wpOpsIn_cons]
  rw [show i+(o::os).length=i+1+os.length by simp only [List.length_cons]; omega] at h6
  unfold wpOpIn
  rw [hoi]
  have hw:Region.wanted o (yielded ops a.tmps) = !T.skip:=z7y hr hgd
  cases hsk:T.skip with
  | false =>
   rw [hsk] at hw
   simp only [hw,Bool.not_false,if_true]
   obtain ⟨hst,hrd⟩:=hrun hsk
   exact z00 hdf (hst X _ _ g a w _ hr hdN (fun x _=>rfl) hrd _ (fun g' v w' hr'=>ih rest (i+1) _ _ _ g' _ w' h4.symm hr' h6))
  | true =>
   rw [hsk] at hw
   simp only [hw,Bool.not_true,Bool.false_eq_true,if_false]
   obtain ⟨e1,e2,e3⟩:=hskip hsk
   refine ⟨fun _ _=>trivial,ih rest (i+1) _ _ _ g _ w h4.symm ?_ h6⟩
   rw [e1,e3]
   exact hr.put o.dst (.dat (vval undef)) undef hdN rfl
end Go.Proofs.YtgdijjmdfcgifaaGreat
