/- make, as data: a new slice of zeros that is only read. slices.Reverse at strings. -/
import Derived.Test.YtpjjkhcojjcdpaaGreatDoorLibK
namespace Go.Proofs.YtpjjkhcojjcdpaaGreatDoor
open Go.RowKit
set_option linter.unusedVariables false
section
variable {P:Program} {f:Nat→Slot} {dst:Option Tmp} {ty:TypeId} {pos:String} {af:Array Edge} {gd:Option (Nat×Bool)}
end
theorem z8r {P:Program} {f:Nat→Slot} {dst:Option Nat} {ty:TypeId} {pos:String} {af:Array Edge} {gd:Option (Nat×Bool)} {t:TypeId} {x:Operand} {n:Int} (hx:evS f x = .dat (vint n)):Stp P ⟨dst,.unOp .neg t x,ty,pos,af,gd⟩ f ⟨false,[],[],.dat (vint (wr (-n)))⟩:=
 qh fun X own g a w h=>by
  have h1:=qw (h x (by simp [Op.operands])) hx
  exact ⟨_,by simp [execOp,h1,Op.unary,Op.intArith],rfl⟩
end Go.Proofs.YtpjjkhcojjcdpaaGreatDoor
