/- The abstract machine: arrays of one-cell elements, built and compared. -/
import Derived.Test.YtnnfdgngnoamoaaGreatDoorMc
import Derived.WideLaws
import Derived.Laws.Entries
import Derived.Laws.IdiomStrings
namespace Go.Proofs.YtnnfdgngnoamoaaGreatDoor
open Go.RowKit
set_option linter.unusedVariables false
section
variable {P:Program} {f:Nat→Slot} {dst:Option Tmp} {ty:TypeId} {pos:String} {af:Array Edge} {gd:Option (Nat×Bool)}
theorem x1d {e:TypeId} (h:tyS P e=some (false,1)) (w:World):(sizeOf e).run P w = .ok 1 w:=by
 obtain ⟨d,i,d1,d2,d3,d4⟩:=ko h
 simp_all [sizeOf,typeInfo]
theorem x0t {t:TypeId} {x ix:Operand} {l:List UInt8} {kd:IntKind} {m:Int} {c:UInt8} (ht:P.underlying t=some .string) (hx:evS f x = .dat (vstr l)) (hi:evS f ix = .dat (vval (.int kd m))) (hk:at? l m=some c) :
  Stp P ⟨dst,.index t x ix,ty,pos,af,gd⟩ f ⟨false,[],[],.dat (vval (.int .u8 (c.toNat:Int)))⟩:=
 vp fun X own g a w h=>by
  have h1:=vt (h x (by simp [Op.operands])) hx
  have h2:=vt (h ix (by simp [Op.operands])) hi
  obtain ⟨⟨q1,q2⟩,q3⟩:=qi hk
  obtain ⟨k,rfl⟩:=Int.eq_ofNat_of_zero_le q1
  rw [Int.toNat_natCast] at q3
  refine ⟨.int .u8 (c.toNat:Int),?_,rfl⟩
  have hlt:=(List.getElem?_eq_some_iff.1 q3).1
  have e1:(ByteArray.mk l.toArray)[k]?=some c:=by
   have:k < (ByteArray.mk l.toArray).size:=by simpa [ByteArray.size] using hlt
   rw [getElem?_pos (ByteArray.mk l.toArray) k this]
   rw [List.getElem?_eq_getElem hlt] at q3
   exact q3
  simp [execOp,h1,h2,Instr.index,asIntOf,run_underlying ht,e1]
end
end Go.Proofs.YtnnfdgngnoamoaaGreatDoor
