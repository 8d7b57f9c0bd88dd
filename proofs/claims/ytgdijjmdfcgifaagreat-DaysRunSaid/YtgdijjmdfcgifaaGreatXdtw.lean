/- The law DaysRun: its walk and the plain law. -/
import Derived.Test.YtgdijjmdfcgifaaGreatXdl
import Derived.Test.YtgdijjmdfcgifaaGreatXdb
import Derived.Test.YtgdijjmdfcgifaaGreatLi
namespace Go.Proofs.YtgdijjmdfcgifaaGreat
theorem law_DaysRun (L:List Int) (_:ArgL L):Fn Tryz.prog 3 [vlst (ints L)] (zu [zn true]):=x94 L true (w1d L)
end Go.Proofs.YtgdijjmdfcgifaaGreat
