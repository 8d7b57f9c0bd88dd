/- The abstract machine: maps whose keys and elements are plain, as lists of entries. -/
import Derived.Test.YtndabcepiekebaaGreatDoorTu
import Derived.Test.YtndabcepiekebaaGreatDoorMl
import Derived.Maps.Keyed
import Derived.DeepKeys5
namespace Go.Proofs.YtndabcepiekebaaGreatDoor
open Go.RowKit Go.ChangeMaps Go.MapKept
set_option linter.unusedVariables false
section
variable {κ τ:Type}
structure MT (κ τ:Type) where
 kV:κ→V
 ck:κ→Value
 ok:κ→Prop
 eV:τ→V
 ce:τ→Value
 z:τ
def EnG (T:MT κ τ) (es:Array MapEntry) (clock:Nat) (l:List (κ×τ)):Prop:=
 Stamped es clock∧es.toList.map (fun e=>(e.key,e.val))=l.map (fun p=>(T.ck p.1,T.ce p.2))∧∀ p,p∈l→T.ok p.1
def w2g (T:MT κ τ) (l:List (κ×τ)):Obj→Prop:=fun o=>∃ es clock,o = .map es clock∧EnG T es clock l
structure TyG (P:Program) (t kt et:TypeId) (T:MT κ τ):Prop where
 ut:P.underlying t=some (.map kt et)
 K:Maps.Keyed P kt
 kof:∀ k,T.ok k→∃ kl,keyOf P kt (T.ck k)=some kl
 zv:∀ w,(zeroValue et).run P w = .ok (T.ce T.z) w
 inj:∀ a b,T.ck a=T.ck b→a=b
 kin:∀ k w M v,(T.kV k).p w M v→v=T.ck k
 ein:∀ x w M v,(T.eV x).p w M v→v=T.ce x
 eof:∀ x w M,(T.eV x).p w M (T.ce x)
 kin2:∀ k w M,(T.kV k).p w M (T.ck k)
theorem y9i {T:MT κ τ} {es:Array MapEntry} {clock:Nat} {l:List (κ×τ)} (h:EnG T es clock l) {j:Nat} {e:MapEntry} (he:es.toList[j]?=some e):∃ p,l[j]?=some p∧e.key=T.ck p.1∧e.val=T.ce p.2:=by
 have h1:=congrArg (fun q=>q[j]?) h.2.1
 simp only [List.getElem?_map,he,Option.map_some] at h1
 cases hq:l[j]? with
 | none=>rw [hq] at h1; cases h1
 | some p =>
  rw [hq] at h1
  simp only [Option.map_some,Option.some.injEq,Prod.mk.injEq] at h1
  exact ⟨p,rfl,h1.1,h1.2⟩
theorem w7j {T:MT κ τ} {es:Array MapEntry} {clock:Nat} {l:List (κ×τ)} (h:EnG T es clock l):es.size=l.length:=by
 have:=congrArg List.length h.2.1
 simpa using this
theorem y53 {T:MT κ τ} {es:Array MapEntry} {clock:Nat} {l:List (κ×τ)} (h:EnG T es clock l):l.Pairwise fun p q=>p.1≠q.1:=by
 have h1:(es.toList.map (·.key)).Nodup:=h.1.2.2
 have h2:es.toList.map (·.key)=l.map fun p=>T.ck p.1:=by
  have:=congrArg (List.map Prod.fst) h.2.1
  simpa [List.map_map,Function.comp_def] using this
 rw [h2,List.Nodup,List.pairwise_map] at h1
 exact h1.imp fun {a b} hne e=>hne (congrArg T.ck e)
end
section
variable {κ τ:Type} {P:Program} {t kt et:TypeId} {T:MT κ τ} {w:World} {b:Nat} {es:Array MapEntry} {clock:Nat} {l:List (κ×τ)}
theorem x5z (hT:TyG P t kt et T) (h:EnG T es clock l):∀ e,e∈es.toList→∃ q,keyOf P kt e.key=some q:=fun e he=>by
 obtain ⟨j,hj⟩:=List.getElem?_of_mem he
 obtain ⟨p,p1,p2,_⟩:=y9i h hj
 rw [p2]
 exact hT.kof _ (h.2.2 p (List.mem_of_getElem? p1))
theorem y9h (hT:TyG P t kt et T) (h:EnG T es clock l) {k:κ} (h2:∀ e,e∈es.toList→e.key≠T.ck k):∀ p,p∈l→p.1≠k:=fun p hp e=>by
 obtain ⟨j,hj⟩:=List.getElem?_of_mem hp
 have hlt:j < es.toList.length:=by
  have h1:=w7j h
  have h3:=(List.getElem?_eq_some_iff.1 hj).1
  simp only [Array.length_toList]; omega
 obtain ⟨q,q1,q2,_⟩:=y9i h (List.getElem?_eq_getElem hlt)
 rw [hj] at q1
 cases q1
 exact h2 _ (List.getElem_mem hlt) (by rw [q2,e])
theorem x51 (hT:TyG P t kt et T) (h:EnG T es clock l) {k:κ} {j:Nat} {e0:MapEntry} (h2:es.toList[j]?=some e0) (h3:e0.key=T.ck k):∃ v,l[j]?=some (k,v)∧e0.val=T.ce v:=by
 obtain ⟨p,p1,p2,p3⟩:=y9i h h2
 have e:=hT.inj _ _ (p2.symm.trans h3)
 exact ⟨p.2,by rw [p1,← e],p3⟩
theorem w7i (hT:TyG P t kt et T) (c:Bool) (hb:w.heap[b]?=some (.map es clock)) (h:EnG T es clock l) {k:κ} (hk:T.ok k) :
  (Instr.lookup t (.map (some b)) (T.ck k) c).run P w = .ok (if c then .tuple #[T.ce ((lkG l k).getD T.z),.bool (lkG l k).isSome] else T.ce ((lkG l k).getD T.z)) w:=by
 obtain ⟨kl,hkl⟩:=hT.kof k hk
 rcases hT.K.find w hkl es.toList (x5z hT h) with ⟨h1,h2⟩ | ⟨j,e0,h1,h2,h3⟩
 ·have e1:=(z2d l k (y9h hT h h2)).1
  rw [e1]
  simp [Instr.lookup,run_underlying hT.ut,MapKept.run_getObj_map hb,hT.K.check w _ hkl,h1,hT.zv w,Result.andThen]
 ·obtain ⟨v,v1,v2⟩:=x51 hT h h2 h3
  have e1:=(y0k l j k v (y53 h) v1).1
  rw [e1]
  simp [Instr.lookup,run_underlying hT.ut,MapKept.run_getObj_map hb,hT.K.check w _ hkl,h1,Result.andThen,v2]
theorem w7h (hT:TyG P t kt et T) (hb:w.heap[b]?=some (.map es clock)) (h:EnG T es clock l) {k:κ} (hk:T.ok k) (v:τ) :
  ∃ es' clock',(Instr.mapUpdate t (.map (some b)) (T.ck k) (T.ce v)).run P w = .ok () (setBlock w b (.map es' clock'))∧EnG T es' clock' (ptG l k v):=by
 obtain ⟨kl,hkl⟩:=hT.kof k hk
 rcases hT.K.find w hkl es.toList (x5z hT h) with ⟨h1,h2⟩ | ⟨j,e0,h1,h2,h3⟩
 ·refine ⟨es.push ⟨T.ck k,T.ce v,clock⟩,clock+1,?_,stamped_push h.1 h2,?_,fun p hp => ?_⟩
  ·simp [Instr.mapUpdate,run_underlying hT.ut,MapKept.run_getObj_map hb,hT.K.check w false hkl,h1,MapKept.run_setObj_map _ hb,Result.andThen,setBlock]
  ·rw [(z2d l k (y9h hT h h2)).2,Array.toList_push,List.map_append,List.map_append,h.2.1]; rfl
  ·rw [(z2d l k (y9h hT h h2)).2] at hp
   rcases List.mem_append.1 hp with hp | hp
   ·exact h.2.2 p hp
   ·rw [List.mem_singleton.1 hp]; exact hk
 ·obtain ⟨v0,v1,v2⟩:=x51 hT h h2 h3
  have hj:es[j]?=some e0:=by simpa using h2
  have hlist:(es.modify j (fun e'=>{ e' with key:=T.ck k,val:=T.ce v })).toList=es.toList.set j { e0 with key:=T.ck k,val:=T.ce v }:=by rw [Array.toList_modify,modify_eq_set _ _ _ _ h2]
  refine ⟨es.modify j (fun e'=>{ e' with key:=T.ck k,val:=T.ce v }),clock,?_,stamped_modify h.1 _ _ (fun _ _=>rfl) (fun e' _ he'=>by rw [hj] at he'; cases he'; exact h3.symm),?_,fun p hp => ?_⟩
  ·simp [Instr.mapUpdate,run_underlying hT.ut,MapKept.run_getObj_map hb,hT.K.check w false hkl,h1,hj,h3,hT.K.stays w hkl,MapKept.run_setObj_map _ hb,Result.andThen,setBlock]
  ·rw [(y0k l j k v0 (y53 h) v1).2,hlist,List.map_set,List.map_set,h.2.1]
  ·rw [(y0k l j k v0 (y53 h) v1).2] at hp
   rcases List.mem_or_eq_of_mem_set hp with hp | hp
   ·exact h.2.2 p hp
   ·rw [hp]; exact hk
end
section
variable {κ τ:Type} {P:Program} {f:Nat→Slot} {dst:Option Tmp} {ty:TypeId} {pos:String} {af:Array Edge} {gd:Option (Nat×Bool)}
variable {an:Option Nat} {t kt et:TypeId} {T:MT κ τ} {l:List (κ×τ)} {x y:Operand} {id:Nat}
end
section
variable {κ τ:Type} {P:Program} {X:Ctx} {Q:Exit→(Nat→Slot)→Own→Prop} {c:Code} {f:Nat→Slot} {own:Own}
end
end Go.Proofs.YtndabcepiekebaaGreatDoor
