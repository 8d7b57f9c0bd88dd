/- The cells of values. Printed by a program. -/
import Derived.Test.YtgdijjmdfcgifaaGreatXdm
import Derived.Test.YtgdijjmdfcgifaaGreatTy
import Derived.Test.YtgdijjmdfcgifaaGreatShelf
import Derived.Test.YtgdijjmdfcgifaaGreatAg
namespace Go.Proofs.YtgdijjmdfcgifaaGreat
open Go.RowKit
set_option linter.unusedVariables false
set_option maxRecDepth 20000
abbrev xy (x:wn):List V:=[vint x.Window,vint x.Least,vint x.Part]
abbrev yl (x:Int):List V:=[vint x]
abbrev ya (x:zl):List V:=[vstr x.Key,vint x.Weight]
abbrev xx (x:vo):List V:=[vint x.Fails,vint x.Base,vint x.Most,vint x.Share]
abbrev ul (x:yq):List V:=[vint x.row_,vint x.until_,vint x.times_]
abbrev xa (x:qj):List V:=[vint x.o_.Fails,vint x.o_.Base,vint x.o_.Most,vint x.o_.Share,vlst (List.map ul x.list_)]
abbrev x1p (x:z7w):List V:=[vint x.At,vstr x.Instance,vint x.Status]
abbrev vd (x:Bs):List V:=[vstr x]
abbrev xo (x:qb):List V:=[vlst (List.map ya x.Instances),vint x.Tries,vint x.Timeout,vint x.Wait,vint x.MostWait,vint x.Budget.Window,vint x.Budget.Least,vint x.Budget.Part,vint x.Outliers.Fails,vint x.Outliers.Base,vint x.Outliers.Most,vint x.Outliers.Share]
abbrev x1o (x:ka):List V:=[vint x.From,vint x.To]
abbrev qq (x:zz):List V:=[vstr x.Instance,vint x.Time.From,vint x.Time.To,vint x.Status,vint x.Took]
abbrev jm (x:qc):List V:=[vstr x.Instance,vint x.Sent,vint x.Done,vint x.Status]
abbrev wx (x:yf):List V:=[vstr x.Call,vlst (List.map jm x.Tries),vint x.Done,vint x.Status]
abbrev yv (x:zt):List V:=[vint x.call_,vint x.instance_,vint x.sent_,vint x.end_,vint x.status_]
abbrev Zy (x:jl):List V:=[vstr x.Instance,vint x.Many]
abbrev wz (x:yi):List V:=[vstr x.Id,vint x.At]
abbrev qk (x:zr):List V:=[vlst (List.map yl x.L),vint x.at_]
abbrev y5a (x:Int):List V:=[vint x]
abbrev kb (x:va):List V:=[vint x.Num,vint x.Den]
noncomputable abbrev Qd:MT Int Bool:=⟨fun x=>vint x,fun x => .int .i64 x,fun x=>(-9223372036854775808≤x∧x≤9223372036854775807),fun x=>zn x,fun x => .bool x,false⟩
theorem y12:TyG Tryz.prog 81 3 4 Qd:=
 ⟨by kernel_rfl,Maps.int_keyed (q := .i64) (by kernel_rfl),fun x hk=>⟨_,x7w (by kernel_rfl) hk⟩,fun w=>by kernel_rfl,(fun a b h=>by simpa using h),(fun x w M v h=>h),(fun x w M v h=>h),(fun x w M=>rfl),(fun x w M=>rfl)⟩
noncomputable abbrev y1o (x:yj):List V:=[vint x.state_,vint x.start_,vmpG Qd x.tried_,vstr x.out_.Call,vlst (List.map jm x.out_.Tries),vint x.out_.Done,vint x.out_.Status]
noncomputable abbrev x1n (x:(Option yj)):List V:=[vopt y1o x]
end Go.Proofs.YtgdijjmdfcgifaaGreat
