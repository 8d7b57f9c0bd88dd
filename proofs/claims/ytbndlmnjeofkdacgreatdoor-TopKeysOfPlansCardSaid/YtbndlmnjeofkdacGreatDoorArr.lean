/- The abstract machine: arrays of one-cell elements, built and compared. -/
import Derived.Test.YtbndlmnjeofkdacGreatDoorMc
import Derived.WideLaws
import Derived.Laws.Entries
import Derived.Laws.IdiomStrings
namespace Go.Proofs.YtbndlmnjeofkdacGreatDoor
open Go.RowKit
set_option linter.unusedVariables false
def tyA (P:Program) (t:TypeId):Option (Nat×TypeId×TypeDesc):=
 match P.underlying t with
 | some (.array n e)=>if P.eqGuardType P.depth t=false∧tyS P e=some (false,1) then (P.underlying e).map fun d=>(n,e,d) else none
 | _=>none
theorem x41 {P:Program} {t e:TypeId} {n:Nat} {d:TypeDesc} (h:tyA P t=some (n,e,d)):P.underlying t=some (.array n e)∧P.eqGuardType P.depth t=false∧tyS P e=some (false,1)∧P.underlying e=some d:=by
 unfold tyA at h
 split at h
 ·rename_i m e' hu
  split at h
  ·rename_i hq
   cases he:P.underlying e' with
   | none=>rw [he] at h; cases h
   | some d'=>rw [he] at h; cases h; exact ⟨hu,hq.1,hq.2,he⟩
  ·cases h
 ·cases h
section
variable {P:Program} {f:Nat→Slot} {dst:Option Tmp} {ty:TypeId} {pos:String} {af:Array Edge} {gd:Option (Nat×Bool)}
theorem y20 {e:TypeId} (h:tyS P e=some (false,1)) (w:World):(sizeOf e).run P w = .ok 1 w:=by
 obtain ⟨d,i,d1,d2,d3,d4⟩:=uh h
 simp_all [sizeOf,typeInfo]
abbrev bxU (l:List Int):List V:=l.map fun x=>vval (.int .u8 x)
theorem w22 (id n:Nat) {t:TypeId} (hz:tyZ P t=some (List.replicate n (.int .u8 0))):Stp P ⟨dst,.alloc t,ty,pos,af,gd⟩ f ⟨false,[(id,none)],[(id,some (some (.box none t ((bxU (List.replicate n 0)).map .dat))))],.ptr id 0⟩:=by
 have h:=qm (dst:=dst) (ty:=ty) (pos:=pos) (af:=af) (gd:=gd) (f:=f) id hz (List.all_eq_true.2 fun v hv=>by rw [List.eq_of_mem_replicate hv]; rfl)
 have e:(List.replicate n (Value.int .u8 0)).map z7w=(bxU (List.replicate n 0)).map .dat:=by simp [bxU,z7w]
 rw [e] at h
 exact h
theorem z68 {t e:TypeId} {n id:Nat} {d:TypeDesc} {x ix:Operand} {m:Int} (ht:tyA P t=some (n,e,d)) (hx:evS f x = .ptr id 0) (hi:evS f ix = .dat (vint m)) (hk:0≤m∧m < (n:Int)) :
  Stp P ⟨dst,.indexAddr t x ix,ty,pos,af,gd⟩ f ⟨false,[],[],.ptr id m.toNat⟩:=
 ve fun X own g a w hh=>by
  have h2:=hh x (by simp [Op.operands])
  have h3:=vp (hh ix (by simp [Op.operands])) hi
  rw [hx] at h2
  obtain ⟨b,q1,q2⟩:=h2
  obtain ⟨hu,_,h4,_⟩:=x41 ht
  have hs:=y20 h4 w
  refine ⟨.pointer (some ⟨b,m.toNat,none⟩),?_,b,q1,rfl⟩
  have e3:(⟨b,0,none⟩:Addr).add (m.toNat * 1)=⟨b,m.toNat,none⟩:=by rw [Addr.add_mid]; simp
  simp only [execOp,h3,q2,Instr.indexAt,asIntOf,Instr.sureAddr,Sem.run_bind,run_underlying hu,Result.andThen_ok,Sem.run_pure]
  rw [if_pos hk]
  simp only [Sem.run_bind,hs,Result.andThen_ok,Sem.run_pure,e3]
theorem z65 {t bt:TypeId} {p x:Operand} {id off:Nat} {an:Option Nat} {l:List Int} {y:Int} (ht:tyS P t=some (false,1)) (hp:evS f p = .ptr id off) (hx:evS f x = .dat (vval (.int .u8 y))) (ho:off < l.length) :
  Stp P ⟨dst,.store t p x,ty,pos,af,gd⟩ f ⟨false,[(id,some (some (.box an bt ((bxU l).map .dat))))],[(id,some (some (.box an bt ((bxU (l.set off y)).map .dat))))],.any⟩:=by
 have h:=wa (dst:=dst) (ty:=ty) (pos:=pos) (af:=af) (gd:=gd) (an:=an) (bt:=bt) (cs:=(bxU l).map .dat) ht hp hx rfl (by simpa [Nat.blt_eq,bxU] using ho)
 have e:((bxU l).map Slot.dat).set off (.dat (vval (.int .u8 y)))=(bxU (l.set off y)).map .dat:=by simp [bxU,List.map_set]
 rw [e] at h
 exact h
theorem w20 {t e:TypeId} {n:Nat} {d:TypeDesc} {x y:Operand} {l:List Int} {m:Int} {C:Int→List V} (ht:tyA P t=some (n,e,d)) (hx:evS f x = .dat (wt [bxU l] 0 0)) (hn:l.length=n) (hy:evS f y = .dat (vint m)) (hk:0≤m∧m≤(n:Int)) (hC:∀ n,C n=[vval (.int .u8 n)]) :
  Stp P ⟨dst,.slice t x (some y) none none,ty,pos,af,gd⟩ f ⟨false,[],[],.dat (vlst ((l.drop m.toNat).map C))⟩:=
 ve fun X own g a w hh=>by
  have h2:=hh x (by simp [Op.operands])
  have h3:=vp (hh y (by simp [Op.operands])) hy
  rw [hx] at h2
  obtain ⟨b,off,size,q1,hM,arr,te,fz,q3,q4,q5⟩:=h2
  obtain ⟨hu,_,h4,_⟩:=x41 ht
  have hs:=y20 h4 w
  obtain ⟨k,rfl⟩:=Int.eq_ofNat_of_zero_le hk.1
  have hkn:k≤n:=by omega
  subst hn
  refine ⟨.slice (some ⟨b,off+(if l.length=k then 0 else k),none⟩) (l.length - k) (l.length - k),?_,some ⟨b,off+(if l.length=k then 0 else k),none⟩,l.length - k,by simp,by simp,fun hne=>⟨b,_,1,rfl,hM,arr,te,fz,q3,fun el hel => ?_,fun j c el u hj hc => ?_⟩⟩
  ·have e1:(⟨b,off,none⟩:Addr).add (k * 1)=⟨b,off+k,none⟩:=by rw [Addr.add_mid,Nat.mul_one]
   simp only [Nat.zero_mul,Nat.add_zero] at q1
   simp only [execOp,h3,q1,Option.map_some,Option.map_none,Instr.sliceAt,Sem.run_bind,run_underlying hu,Result.andThen_ok,Instr.sureAddr,Sem.run_pure,Instr.sliceBounds,Instr.sliceBound,asIntOf]
   rw [if_pos ⟨by omega,by omega⟩]
   simp only [Sem.run_pure,Result.andThen_ok,hs,Int.toNat_natCast,e1]
   by_cases h0:l.length=k
   ·simp [h0]
   ·simp [h0]
  ·obtain ⟨x,_,rfl⟩:=List.mem_map.1 hel
   rw [hC]; rfl
  ·rw [List.getElem?_map,List.getElem?_drop] at hj
   cases hq:l[k+j]? with
   | none=>simp [hq] at hj
   | some z =>
    simp [hq] at hj
    subst hj
    have hlt:=(List.getElem?_eq_some_iff.1 hq).1
    have h0:¬ l.length=k:=by omega
    rw [hC] at hc
    cases c with
    | succ c=>simp at hc
    | zero =>
     simp at hc
     subst hc
     obtain ⟨x,s1,s2,s3⟩:=q5 0 (k+j) (bxU l) (vval (.int .u8 z)) rfl (by simp [bxU,hq])
     refine ⟨x,?_,s2,s3⟩
     rw [if_neg h0]
     rw [← s1]; congr 1; omega
theorem z3f {t:TypeId} {x ix:Operand} {l:List UInt8} {kd:IntKind} {m:Int} {c:UInt8} (ht:P.underlying t=some .string) (hx:evS f x = .dat (vstr l)) (hi:evS f ix = .dat (vval (.int kd m))) (hk:at? l m=some c) :
  Stp P ⟨dst,.index t x ix,ty,pos,af,gd⟩ f ⟨false,[],[],.dat (vval (.int .u8 (c.toNat:Int)))⟩:=
 ve fun X own g a w h=>by
  have h1:=vp (h x (by simp [Op.operands])) hx
  have h2:=vp (h ix (by simp [Op.operands])) hi
  obtain ⟨⟨q1,q2⟩,q3⟩:=qk hk
  obtain ⟨k,rfl⟩:=Int.eq_ofNat_of_zero_le q1
  rw [Int.toNat_natCast] at q3
  refine ⟨.int .u8 (c.toNat:Int),?_,rfl⟩
  have hlt:=(List.getElem?_eq_some_iff.1 q3).1
  have e1:(ByteArray.mk l.toArray)[k]?=some c:=by
   have:k < (ByteArray.mk l.toArray).size:=by simpa [ByteArray.size] using hlt
   rw [getElem?_pos (ByteArray.mk l.toArray) k this]
   rw [List.getElem?_eq_getElem hlt] at q3
   exact q3
  simp [execOp,h1,h2,Instr.index,asIntOf,run_underlying ht,e1]
theorem x5n {t t':TypeId} {x y:Operand} {k:IntKind} {m n:Int} (hx:evS f x = .dat (vval (.int k m))) (hy:evS f y = .dat (vval (.int k n))) (h1:n≠0) :
  Stp P ⟨dst,.binOp .quo t x y t',ty,pos,af,gd⟩ f ⟨false,[],[],.dat (vval (.int k (k.wrap (m.tdiv n))))⟩:=
 jv hx hy fun w=>by simp [eqGuard,binOp,Op.intDiv,h1]
theorem x5w {s d e:TypeId} {x:Operand} {l:Bs} {C:Int→List V} (hs:P.underlying s=some .string) (hd:P.underlying d=some (.slice e)) (he:P.underlying e=some (.int .u8)) (hC:∀ n,C n=[vval (.int .u8 n)]) (hx:evS f x = .dat (vstr l)) :
  Stp P ⟨dst,.convert s d x,ty,pos,af,gd⟩ f ⟨false,[],[],.dat (vlst ((jd l).map C))⟩:=
 x5v fun X own g a w hlt h=>by
  have h1:=vp (h x (by simp [Op.operands])) hx
  have hr:=run_bytes_of_string (P:=P) w s d e ⟨l.toArray⟩ hs hd he
  have hsz:(ByteArray.mk l.toArray).size=l.length:=by simp [ByteArray.size]
  have hge:=grownCap_ge w (ByteArray.mk l.toArray).size 0 e
  rw [hsz] at hr hge
  have hlen:((jd l).map C).length=l.length:=by simp [jd]
  refine ⟨_,_,by simp only [execOp,h1,Sem.run_bind,hr,Result.andThen_ok,Sem.run_pure]; rfl,((Kp.refl [] w).drew).alloc _,some ⟨w.heap.size,0,none⟩,grownCap w l.length 0 e,by rw [hlen],by rw [hlen]; exact hge,fun hne=>⟨w.heap.size,0,1,rfl,fun hM=>absurd (hlt _ hM) (Nat.lt_irrefl _),_,_,_,heap_alloc_new w.drew _,fun el hel => ?_,fun k c el u hk hc => ?_⟩⟩
  ·obtain ⟨y,_,rfl⟩:=List.mem_map.1 hel
   rw [hC]; rfl
  ·rw [List.getElem?_map] at hk
   cases hq:(jd l)[k]? with
   | none=>rw [hq] at hk; cases hk
   | some y =>
    rw [hq] at hk
    cases hk
    rw [hC] at hc
    cases c with
    | succ c=>simp at hc
    | zero =>
     simp at hc
     subst hc
     refine ⟨.int .u8 y,?_,rfl,rfl⟩
     unfold jd at hq
     rw [List.getElem?_map] at hq
     cases hz:l[k]? with
     | none=>rw [hz] at hq; cases hq
     | some b =>
      rw [hz] at hq
      cases hq
      have hkl:=(List.getElem?_eq_some_iff.1 hz).1
      unfold bytesRow
      rw [Array.getElem?_append_left (by simp; omega)]
      simp [hz]
theorem z1a {lf:List (Nat×Slot)} {lo:List (Nat×AObj)} (h1:(lf.all fun p=>okS (ows lo) p.2)=true) (h2:(lo.all fun p=>okO (ows lo) p.2)=true):okL lf lo=true:=by
 unfold okL
 rw [h1,h2]; rfl
theorem z1b {own:Own}:(([]:List (Nat×AObj)).all fun p=>okO own p.2)=true:=rfl
theorem z1c {own:Own} {p:Nat×AObj} {l:List (Nat×AObj)} (h:okO own p.2=true) (t:(l.all fun p=>okO own p.2)=true):((p::l).all fun p=>okO own p.2)=true:=by
 rw [List.all_cons,h,t]; rfl
theorem z09 {own:Own} {an:Option Nat} {t:TypeId} {l:List Int}:okO own (.box an t ((bxU l).map .dat))=true:=by
 simp only [okO,List.all_map,List.all_eq_true]
 intro v _
 rfl
end
end Go.Proofs.YtbndlmnjeofkdacGreatDoor
