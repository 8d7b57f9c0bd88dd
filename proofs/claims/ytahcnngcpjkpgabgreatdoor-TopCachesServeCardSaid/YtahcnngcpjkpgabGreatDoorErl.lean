/- The variables of errors that the machine carries, out of the list that a card lays. -/
import Derived.Test.YtahcnngcpjkpgabGreatDoorLi
import Derived.LaidSub
import Derived.OpenShut
import Derived.MakeChecks
import Derived.ChangeArms
import Derived.LaidMore
namespace Go.Proofs.YtahcnngcpjkpgabGreatDoor
set_option linter.unusedVariables false
theorem w8r {H:Type} {enc:TypeId×Value→H} {P:Program} {w:World} {base:Nat} {spare:Nat→Bool} {held:Bool} {fuel:Nat} {t:TypeId} {cs:List Value} {nm:String} {d:DataW H} {p:List MemPlace} {ms:Array (String×TypeId)}
  (ht:P.underlying t=some (.interface ms)) (h:DataW.trod enc P w base spare held fuel t cs=some (.iface nm d,p)):∃ u v,cs=[.iface u v]:=by
 cases fuel with
 | zero=>simp [DataW.trod] at h
 | succ n =>
  unfold DataW.trod at h
  rw [ht] at h
  split at h <;> simp_all
theorem x74 {l:List (String×DataW Unit)} {n nm:String} {d:DataW Unit} {g t:Nat} {ms:Array (String×TypeId)} (hl:(l.filter fun x=>x.1 == n)=[(n,.iface nm d)]) (hh:([(n,DataW.iface nm d)].all fun x=>x.2.handleName?.isNone)=true)
  (hg:Tryz.prog.globalNamed n=some g) (ht:(Tryz.prog.globals[g]?).map (·.type)=some t) (hu:Tryz.prog.underlying t=some (.interface ms)) {W:World} (h:laidMetH Tryz.prog l W):∃ (tp:TypeId) (p:Value),W.cell? ⟨g,0,none⟩=some (.iface tp p):=by
 have h:=h.filter (fun x=>x.1 == n)
 rw [hl,MakeChecks.laidMetH_plain _ _ _ hh] at h
 obtain ⟨ps,⟨g0,t0,cs0,f0,p0,q0,hg0,ht0,hv0,hd0,_,_⟩,_,_⟩:=h
 obtain rfl:=Option.some.inj (hg.symm.trans hg0)
 obtain rfl:=Option.some.inj (ht.symm.trans ht0)
 obtain ⟨u,v,e⟩:=w8r hu hd0
 refine ⟨u,v,?_⟩
 rw [World.var?_cell hg0 hv0 0]
 have:cs0.toList[0]?=some (.iface u v):=by rw [e]; rfl
 simpa using this
end Go.Proofs.YtahcnngcpjkpgabGreatDoor
