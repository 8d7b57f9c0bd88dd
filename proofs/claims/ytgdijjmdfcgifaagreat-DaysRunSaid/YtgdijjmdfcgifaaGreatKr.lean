/- The abstract machine: a range over a function that yields the keys of a map, in whatever order; slices.AppendSeq, whose result is a row of one's own. -/
import Derived.Test.YtgdijjmdfcgifaaGreatRng
import Derived.Test.YtgdijjmdfcgifaaGreatPm
namespace Go.Proofs.YtgdijjmdfcgifaaGreat
open Go.RowKit Go.ChangeMaps Go.MapKept
set_option linter.unusedVariables false
section
variable {P:Program} {X:Ctx} {f:Nat→Slot} {own:Own} {Rs:(Nat→Slot)→Own→Prop}
end
section
variable {P:Program} {X:Ctx} {f:Nat→Slot} {own:Own} {Rs:(Nat→Slot)→Own→Prop} {κ τ σ:Type} {b:Nat} {gop:Operand} {p0:Tmp} {asg bdy y:Code} {T:MT κ τ} {gf:Nat} {s0:σ} {Iv:List (κ×τ)→σ→Prop}
end
section
variable {P:Program} {f:Nat→Slot} {dst:Option Tmp} {ty:TypeId} {pos:String} {af:Array Edge} {gd:Option (Nat×Bool)}
end
end Go.Proofs.YtgdijjmdfcgifaaGreat
