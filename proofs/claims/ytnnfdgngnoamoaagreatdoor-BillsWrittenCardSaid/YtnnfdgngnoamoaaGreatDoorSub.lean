/- The abstract machine: tails of rows that are read. -/
import Derived.Test.YtnnfdgngnoamoaaGreatDoorMc
namespace Go.Proofs.YtnnfdgngnoamoaaGreatDoor
open Go.RowKit
set_option linter.unusedVariables false
section
variable {P:Program} {f:Nat→Slot} {dst:Option Tmp} {ty:TypeId} {pos:String} {af:Array Edge} {gd:Option (Nat×Bool)}
theorem y4a {α:Type} {xs:List α} {k j:Nat} {y:α} (h:(xs.drop k)[j]?=some y):xs[k+j]?=some y:=by
 rw [List.getElem?_drop] at h; exact h
theorem x8e {t e e':TypeId} {n n':Nat} {x ix:Operand} {id k j:Nat} {es:List (List V)} (h:tyE P t=some (e,n')) (hx:evS f x = .rsub id n n' k) (hi:evS f ix = .dat (vint (j:Int))) (hn:n=es.length) (hk:k+j < es.length) :
  Stp P ⟨dst,.indexAddr t x ix,ty,pos,af,gd⟩ f ⟨false,[(id,some (some (.row e' n' es)))],[],.rptr id n n' (k+j) 0⟩:=
 xa fun X own g a w hh hob=>by
  have h2:=hh x (by simp [Op.operands])
  have h3:=vt (hh ix (by simp [Op.operands])) hi
  rw [hx] at h2
  obtain ⟨v,xs,q1,q2,q3,q4,q5⟩:=hob
  subst hn
  obtain ⟨b,cap,p1,p2⟩:=h2
  rw [p1] at q1
  cases q1
  obtain ⟨i,d1,d2,d3⟩:=z3s h
  rcases q2.2 with ⟨e1,e2⟩ | ⟨b',cap',cur,e1,e2,e3,e4,e5⟩
  ·cases e1
  ·cases e1
   have hck:¬ cap=k:=by omega
   refine ⟨.pointer (some ⟨b,(k+j) * n'+0,none⟩),?_,b,cap,p1,rfl⟩
   rw [if_neg hck] at p2
   have e3:(⟨b,k * n',none⟩:Addr).add (j * n')=⟨b,(k+j) * n'+0,none⟩:=by rw [Addr.add_mid,Nat.add_mul]; simp
   have hj:j < es.length - k:=by omega
   simp [execOp,h3,p2,Instr.indexAt,asIntOf,run_underlying d1,sizeOf,typeInfo,d2,d3,hj,e3]
theorem x79 {x:Operand} {t e e':TypeId} {id n size k:Nat} {es:List (List V)} (ht:P.underlying t=some (.slice e)) (hx:evS f x = .rsub id n size k) (hn:n=es.length) :
  Stp P ⟨dst,.call { callee := .builtin .len,args := #[x],argTypes := #[t] },ty,pos,af,gd⟩ f ⟨false,[(id,some (some (.row e' size es)))],[],.dat (vint ((es.length - k:Nat):Int))⟩:=
 xa fun X own g a w hh hob=>by
  have h2:=hh x (by simp [Op.operands,Call.operands])
  rw [hx] at h2
  subst hn
  obtain ⟨b,cap,p1,p2⟩:=h2
  refine ⟨.int .i64 ((es.length - k:Nat):Int),?_,rfl⟩
  simp [execOp,resolve,invoke,builtin,Builtin.len_,p2,run_underlying ht,goInt]
theorem y43 {α:Type} {C:α→List V} {xs:List α} {t e e':TypeId} {n n':Nat} {x ix:Operand} {id k:Nat} {m:Int} {y:α} (h:tyE P t=some (e,n')) (hx:evS f x = .rsub id n n' k) (hn:n=xs.length) (hi:evS f ix = .dat (vint m)) (hk:at? (xs.drop k) m=some y) :
  Stp P ⟨dst,.indexAddr t x ix,ty,pos,af,gd⟩ f ⟨false,[(id,some (some (.row e' n' (xs.map C))))],[],.rptr id n n' (k+m.toNat) 0⟩:=
 x8e h hx (by rw [hi,Int.toNat_of_nonneg (by have:=(qi hk).1; omega)]) (by rw [List.length_map]; exact hn) (by rw [List.length_map]; exact jg (y4a (qi hk).2))
theorem x7a {α:Type} {C:α→List V} {xs:List α} {x:Operand} {t e e':TypeId} {id n size k:Nat} (ht:P.underlying t=some (.slice e)) (hx:evS f x = .rsub id n size k) (hn:n=xs.length) :
  Stp P ⟨dst,.call { callee := .builtin .len,args := #[x],argTypes := #[t] },ty,pos,af,gd⟩ f ⟨false,[(id,some (some (.row e' size (xs.map C))))],[],.dat (vint ((xs.drop k).length:Int))⟩:=
 yf (x79 ht hx (by rw [List.length_map]; exact hn)) (by rw [List.length_map,List.length_drop])
end
end Go.Proofs.YtnnfdgngnoamoaaGreatDoor
