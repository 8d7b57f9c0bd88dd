/- The abstract machine: ranges over maps. -/
import Derived.Test.YtgdijjmdfcgifaaGreatAg
import Derived.Maps.RangeRun
namespace Go.Proofs.YtgdijjmdfcgifaaGreat
open Go.RowKit Go.ChangeMaps Go.MapKept
set_option linter.unusedVariables false
section
variable {κ τ:Type} {P:Program} {X:Ctx} {Q:Exit→(Nat→Slot)→Own→Prop} {c:Code} {f:Nat→Slot} {own:Own}
end
section
variable {κ τ:Type} {P:Program} {f:Nat→Slot} {dst:Option Tmp} {ty:TypeId} {pos:String} {af:Array Edge} {gd:Option (Nat×Bool)}
variable {t kt et:TypeId} {T:MT κ τ} {l:List (κ×τ)} {b:Nat} {es:Array MapEntry} {cl:Nat} {x:Operand}
end
section
variable {P:Program} {X:Ctx} {Q:Exit→(Nat→Slot)→Own→Prop} {f:Nat→Slot} {own:Own}
end
section
variable {α σ ρ:Type}
end
section
variable {α σ ρ:Type} {P:Program} {X:Ctx} {Q:Exit→(Nat→Slot)→Own→Prop} {c:Code} {f:Nat→Slot} {own:Own}
end
end Go.Proofs.YtgdijjmdfcgifaaGreat
