/- make, as data: a new slice of zeros that is only read. slices.Reverse at strings. -/
import Derived.Test.YtihjlkocfeoelaaGreatDoorLibK
namespace Go.Proofs.YtihjlkocfeoelaaGreatDoor
open Go.RowKit
set_option linter.unusedVariables false
section
variable {P:Program} {f:Nat→Slot} {dst:Option Tmp} {ty:TypeId} {pos:String} {af:Array Edge} {gd:Option (Nat×Bool)}
theorem y93 {t e:TypeId} {size bytes:Nat} {x y:Operand} {n:Nat} {zs:List Value} (hE:Elem P t e size bytes) (hz:tyZ P e=some zs) (h1:zs.all (·.oneCell')=true) (hx:evS f x = .dat (vint (n:Int))) (hy:evS f y = .dat (vint (n:Int))) (hm:n≤1000000000) (hb:n * bytes≤281474976710656) :
  Stp P ⟨dst,.makeSlice t x y,ty,pos,af,gd⟩ f ⟨false,[],[],.dat (vlst (List.replicate n (zs.map vval)))⟩:=
 y43 fun X own g a w hlt h=>by
  have h2:=z58 (h x (by simp [Op.operands])) hx
  have h3:=z58 (h y (by simp [Op.operands])) hy
  obtain ⟨e1,i,z,e2,e3,e4,e5,e6,e7,e8,e9⟩:=y2m hE w
  have hzs:z.cells.toList=zs:=by simpa [tyZ,e2,e5] using hz
  have hbm:((bytes:Int) * (n:Int))=((n * bytes:Nat):Int):=by rw [Nat.mul_comm]; simp
  have hmk:=run_make (P:=P) w t e i z e1 e2 e5 .i64 .i64 n n (by omega) (by omega) (by rw [e4,hbm]; omega) (by omega)
  rw [e3] at hmk
  simp only [Int.toNat_natCast] at hmk
  have hzl:zs.length=size:=by rw [← hzs]; simpa using e6
  have hlen:(List.replicate n (zs.map vval)).length=n:=by simp
  refine ⟨.slice (some ⟨w.heap.size,0,none⟩) n n,w.alloc (.cells (madeCells z.cells (n * size)) e),?_,(Kp.refl [] w).alloc _,some ⟨w.heap.size,0,none⟩,n,by rw [hlen],by rw [hlen]; exact Nat.le_refl _,fun _=>⟨w.heap.size,0,size,rfl,fun hM=>absurd (hlt _ hM) (Nat.lt_irrefl _),madeCells z.cells (n * size),e,(0,0),heap_alloc_new w _,fun el hel => ?_,fun k c el u hk hc => ?_⟩⟩
  ·simp only [execOp,h2,h3,Sem.run_bind,hmk,Result.andThen_ok,Sem.run_pure]
  ·rw [List.eq_of_mem_replicate hel]; simpa using hzl
  ·have hk':=List.eq_of_mem_replicate (List.mem_of_getElem? hk)
   subst hk'
   have hkn:k < n:=by have:=(List.getElem?_eq_some_iff.1 hk).1; simpa using this
   rw [List.getElem?_map] at hc
   cases hq:zs[c]? with
   | none=>rw [hq] at hc; cases hc
   | some x =>
    rw [hq] at hc
    cases hc
    have hcl:=(List.getElem?_eq_some_iff.1 hq).1
    refine ⟨x,?_,rfl,(List.all_eq_true.1 h1) x (List.mem_of_getElem? hq)⟩
    have hlt:k * size+c < n * size:=y08 hkn (by omega)
    have e10:(k * size+c) % size=c:=by rw [Nat.mul_comm,Nat.mul_add_mod]; exact Nat.mod_eq_of_lt (by omega)
    have e11:z.cells[c]?=some x:=by rw [← hzs] at hq; simpa using hq
    have e12:z.cells[c]! = x:=by rw [Array.getElem!_eq_getD,Array.getD_eq_getD_getElem?,e11]; rfl
    simp [madeCells,hlt,e6,e10,e12]
theorem x4u {α:Type} {C:α→List V} (z:α) {t e:TypeId} {size bytes:Nat} {x y:Operand} {m:Int} {zs:List Value} (hE:Elem P t e size bytes) (hz:tyZ P e=some zs) (h1:zs.all (·.oneCell')=true) (hx:evS f x = .dat (vint m)) (hy:evS f y = .dat (vint m)) (hCz:zs.map vval=C z) (hm:0≤m∧m≤1000000000) (hby:Nat.ble bytes 140737=true) :
  Stp P ⟨dst,.makeSlice t x y,ty,pos,af,gd⟩ f ⟨false,[],[],.dat (vlst ((List.replicate m.toNat z).map C))⟩:=by
 have hb:=Nat.le_of_ble_eq_true hby
 obtain ⟨n,rfl⟩:=Int.eq_ofNat_of_zero_le hm.1
 have h:=y93 (dst:=dst) (ty:=ty) (pos:=pos) (af:=af) (gd:=gd) (n:=n) hE hz h1 hx hy (by omega) (Nat.le_trans (Nat.mul_le_mul (show n≤1000000000 by omega) hb) (by decide))
 rw [List.map_replicate,← hCz]
 exact h
end
noncomputable def y48 (l:List Bs):Option (List Bs):=if l.length≤1000000000 then some l.reverse else none
end Go.Proofs.YtihjlkocfeoelaaGreatDoor
