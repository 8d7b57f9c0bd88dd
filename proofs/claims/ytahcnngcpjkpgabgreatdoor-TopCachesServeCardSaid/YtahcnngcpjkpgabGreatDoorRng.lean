/- The abstract machine: a range over slices.Backward: the round's frame, the loop's record, the mark among the deferred calls; functions that hold one such range. -/
import Derived.Test.YtahcnngcpjkpgabGreatDoorMc
import Derived.RangeFuncNested
import Derived.RangeFuncLeaves
namespace Go.Proofs.YtahcnngcpjkpgabGreatDoor
open Go.RowKit
set_option linter.unusedVariables false

section plain
variable {α σ ρ:Type}
def back (body:Nat→α→σ→Option (σ ⊕ ρ)) (fin:σ→Option ρ) (l:List α):Nat→σ→Option ρ
 | 0,s=>fin s
 | n+1,s=>(l[n]?).bind fun x=>(body n x s).bind (after (back body fin l n))
end plain

section
variable {P:Program} {f:Nat→Slot} {dst:Option Tmp} {ty:TypeId} {pos:String} {af:Array Edge} {gd:Option (Nat×Bool)}
end

def boxB:AObj→Bool
 | .box _ _ _=>true
 | .row _ _ _=>true
 | _=>false
def blks (g:Gh) (lo:List (Nat×AObj)):List Nat:=lo.filterMap fun p=>obk g p.1 p.2
abbrev Bx:=List (Nat×AObj)
def anB (a:Nat):AObj→AObj
 | .box _ t cs => .box (some a) t cs
 | o=>o
def mkB (A:Nat→Nat) (l:Bx):List (Nat×AObj):=l.map fun p=>(p.1,anB (A p.1) p.2)
section
variable {P:Program} {X:Ctx} {f:Nat→Slot} {own:Own} {rs:List ResultVar} {us:List V}
structure RB (X:Ctx) (lf:List (Nat×Slot)) (A:Nat→Nat) (g:Gh) (l0:Bx) (a:Act) (w:World) (lB:Bx) (g':Gh) (W:World):Prop where
 rel:Rel X (frs lf) (ows (mkB A lB)) g' a W
 sz:w.heap.size≤W.heap.size
 st:∀ b,b < w.heap.size→b ∉ blks g (mkB A l0)→(∃ o,w.heap[b]?=some o∧x2y o=true)→W.heap[b]?=w.heap[b]?
 mn:∀ id o b,ows (mkB A lB) id=some (some o)→obk g' id o=some b→b∈blks g (mkB A l0)∨w.heap.size≤b
 bx:lB.all (fun p=>boxB p.2)=true
section
variable {lf:List (Nat×Slot)} {A:Nat→Nat} {g g':Gh} {l0 lB lB':Bx} {a:Act} {w W:World}
end

section
variable {α σ ρ:Type} {b:Nat} {gop:Operand} {p0 p1:Tmp} {asg bdy y:Code} {C:α→List V} {l:List α} {gf:Nat} {body:Nat→α→σ→Option (σ ⊕ ρ)} {fin:σ→Option ρ} {s0:σ} {r:ρ} {o:Bool}
end
end
end Go.Proofs.YtahcnngcpjkpgabGreatDoor
