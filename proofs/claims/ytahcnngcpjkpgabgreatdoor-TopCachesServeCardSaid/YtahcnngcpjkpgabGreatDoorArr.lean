/- The abstract machine: arrays of one-cell elements, built and compared. -/
import Derived.Test.YtahcnngcpjkpgabGreatDoorMc
import Derived.WideLaws
import Derived.Laws.Entries
import Derived.Laws.IdiomStrings
namespace Go.Proofs.YtahcnngcpjkpgabGreatDoor
open Go.RowKit
set_option linter.unusedVariables false
section
variable {P:Program} {f:Nat→Slot} {dst:Option Tmp} {ty:TypeId} {pos:String} {af:Array Edge} {gd:Option (Nat×Bool)}
theorem x3i {e:TypeId} (h:tyS P e=some (false,1)) (w:World):(sizeOf e).run P w = .ok 1 w:=by
 obtain ⟨d,i,d1,d2,d3,d4⟩:=uk h
 simp_all [sizeOf,typeInfo]
theorem y1u {t:TypeId} {x ix:Operand} {l:List UInt8} {kd:IntKind} {m:Int} {c:UInt8} (ht:P.underlying t=some .string) (hx:evS f x = .dat (vstr l)) (hi:evS f ix = .dat (vval (.int kd m))) (hk:at? l m=some c) :
  Stp P ⟨dst,.index t x ix,ty,pos,af,gd⟩ f ⟨false,[],[],.dat (vval (.int .u8 (c.toNat:Int)))⟩:=
 qv fun X own g a w h=>by
  have h1:=wu (h x (by simp [Op.operands])) hx
  have h2:=wu (h ix (by simp [Op.operands])) hi
  obtain ⟨⟨q1,q2⟩,q3⟩:=vt hk
  obtain ⟨k,rfl⟩:=Int.eq_ofNat_of_zero_le q1
  rw [Int.toNat_natCast] at q3
  refine ⟨.int .u8 (c.toNat:Int),?_,rfl⟩
  have hlt:=(List.getElem?_eq_some_iff.1 q3).1
  have e1:(ByteArray.mk l.toArray)[k]?=some c:=by
   have:k < (ByteArray.mk l.toArray).size:=by simpa [ByteArray.size] using hlt
   rw [getElem?_pos (ByteArray.mk l.toArray) k this]
   rw [List.getElem?_eq_getElem hlt] at q3
   exact q3
  simp [execOp,h1,h2,Instr.index,asIntOf,run_underlying ht,e1]
theorem w1u {t t':TypeId} {x y:Operand} {k:IntKind} {m n:Int} (hx:evS f x = .dat (vval (.int k m))) (hy:evS f y = .dat (vval (.int k n))) (h1:n≠0) :
  Stp P ⟨dst,.binOp .quo t x y t',ty,pos,af,gd⟩ f ⟨false,[],[],.dat (vval (.int k (k.wrap (m.tdiv n))))⟩:=
 kt hx hy fun w=>by simp [eqGuard,binOp,Op.intDiv,h1]
theorem x2p {s d e:TypeId} {x:Operand} {l:Bs} {C:Int→List V} (hs:P.underlying s=some .string) (hd:P.underlying d=some (.slice e)) (he:P.underlying e=some (.int .u8)) (hC:∀ n,C n=[vval (.int .u8 n)]) (hx:evS f x = .dat (vstr l)) :
  Stp P ⟨dst,.convert s d x,ty,pos,af,gd⟩ f ⟨false,[],[],.dat (vlst ((yk l).map C))⟩:=
 x2m fun X own g a w hlt h=>by
  have h1:=wu (h x (by simp [Op.operands])) hx
  have hr:=run_bytes_of_string (P:=P) w s d e ⟨l.toArray⟩ hs hd he
  have hsz:(ByteArray.mk l.toArray).size=l.length:=by simp [ByteArray.size]
  have hge:=grownCap_ge w (ByteArray.mk l.toArray).size 0 e
  rw [hsz] at hr hge
  have hlen:((yk l).map C).length=l.length:=by simp [yk]
  refine ⟨_,_,by simp only [execOp,h1,Sem.run_bind,hr,Result.andThen_ok,Sem.run_pure]; rfl,((Kp.refl [] w).drew).alloc _,some ⟨w.heap.size,0,none⟩,grownCap w l.length 0 e,by rw [hlen],by rw [hlen]; exact hge,fun hne=>⟨w.heap.size,0,1,rfl,fun hM=>absurd (hlt _ hM) (Nat.lt_irrefl _),_,_,_,heap_alloc_new w.drew _,fun el hel => ?_,fun k c el u hk hc => ?_⟩⟩
  ·obtain ⟨y,_,rfl⟩:=List.mem_map.1 hel
   rw [hC]; rfl
  ·rw [List.getElem?_map] at hk
   cases hq:(yk l)[k]? with
   | none=>rw [hq] at hk; cases hk
   | some y =>
    rw [hq] at hk
    cases hk
    rw [hC] at hc
    cases c with
    | succ c=>simp at hc
    | zero =>
     simp at hc
     subst hc
     refine ⟨.int .u8 y,?_,rfl,rfl⟩
     unfold yk at hq
     rw [List.getElem?_map] at hq
     cases hz:l[k]? with
     | none=>rw [hz] at hq; cases hq
     | some b =>
      rw [hz] at hq
      cases hq
      have hkl:=(List.getElem?_eq_some_iff.1 hz).1
      unfold bytesRow
      rw [Array.getElem?_append_left (by simp; omega)]
      simp [hz]
end
end Go.Proofs.YtahcnngcpjkpgabGreatDoor
