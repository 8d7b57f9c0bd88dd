/- The abstract machine: maps whose elements are pointers to cells of an own box. -/
import Derived.Test.YtndabcepiekebaaGreatDoorMg
import Derived.Test.YtndabcepiekebaaGreatDoorDr
namespace Go.Proofs.YtndabcepiekebaaGreatDoor
open Go.RowKit Go.ChangeMaps Go.MapKept
set_option linter.unusedVariables false
def ptI (b:Nat):Int→Value
 | .ofNat n => .pointer (some ⟨b,n,none⟩)
 | .negSucc _ => .pointer none
theorem w1l {b:Nat} {x:Int} (h:0≤x):ptI b x = .pointer (some ⟨b,x.toNat,none⟩):=by
 obtain ⟨n,rfl⟩:=Int.eq_ofNat_of_zero_le h; rfl
noncomputable abbrev MTP (b:Nat):MT Bs Int:=⟨fun x=>vstr x,fun x => .string ⟨x.toArray⟩,fun x=>x.length≤1000000000,fun x=>vval (ptI b x),fun x=>ptI b x,-1⟩
section
variable {P:Program} {f:Nat→Slot} {dst:Option Tmp} {ty:TypeId} {pos:String} {af:Array Edge} {gd:Option (Nat×Bool)}
theorem x0b {own:Own} {id:Nat} {q:Option (Option AObj)} (h:own id=q):own=upl own [(id,q)]:=by
 funext i
 by_cases hi:i=id
 ·subst hi; rw [jp]; exact h
 ·rw [jq hi]
theorem x0c {g:Gh} {w:World} {M:Blks} {f':Nat→Slot} {d:Option Nat} {s s':Slot} (hs:∀ v,RepS g w M s v→RepS g w M s' v) (k:Nat) (v:Value) (h:RepS g w M (updS f' d s k) v):RepS g w M (updS f' d s' k) v:=by
 cases d with
 | none=>exact h
 | some d =>
  simp only [updS] at h ⊢
  cases hb:Nat.beq k d
  ·rw [hb] at h; exact h
  ·rw [hb] at h; exact hs v h
theorem y21 {o:Oper} {id off bl:Nat} {t:TypeId} {cs:List Slot} {rd wr:List (Nat×Option (Option AObj))} (h:Stp P o f ⟨false,rd,wr,.ptr id off⟩) (hw:(keys wr).contains id=false) :
  Stp P o f ⟨false,(id,some (some (.box (some bl) t cs)))::rd,wr,.dat (vval (.pointer (some ⟨bl,off,none⟩)))⟩:=by
 intro X f' own g a w Q hrl hd hx hrd K hK
 refine h X f' own g a w Q hrl hd hx (fun q hq=>hrd q (by simp [hq])) K fun g' v w' hR=>hK g' v w' ?_
 have ho:own id=some (some (.box (some bl) t cs)):=hrd (id,_) (by simp)
 have hidw:id ∉ keys wr:=fun hm=>by rw [List.contains_iff_mem.2 hm] at hw; cases hw
 have ho':upl own wr id=some (some (.box (some bl) t cs)):=by rw [jn _ _ _ hidw]; exact ho
 obtain ⟨b,l,q1,q2,q3⟩:=hR.ob id _ ho'
 have hbl:bl=b:=q2 bl rfl
 subst hbl
 refine hR.view (id:=id) (an2:=some bl) ho' (x0b ho') (fun q hq b hb=>by cases hq; rw [q1] at hb; exact Option.some.inj hb) fun k v hv => ?_
 refine x0c (fun v hv => ?_) k v hv
 obtain ⟨b',h1,h2⟩:=hv
 rw [q1] at h1; cases h1
 exact h2
theorem x8s {o:Oper} {id off bl:Nat} {t:TypeId} {cs:List Slot} {rd wr:List (Nat×Option (Option AObj))} (h:Stp P o f ⟨false,rd,wr,.dat (vval (.pointer (some ⟨bl,off,none⟩)))⟩) (hw:(keys wr).contains id=false) :
  Stp P o f ⟨false,(id,some (some (.box (some bl) t cs)))::rd,wr,.ptr id off⟩:=by
 intro X f' own g a w Q hrl hd hx hrd K hK
 refine h X f' own g a w Q hrl hd hx (fun q hq=>hrd q (by simp [hq])) K fun g' v w' hR=>hK g' v w' ?_
 have ho:own id=some (some (.box (some bl) t cs)):=hrd (id,_) (by simp)
 have hidw:id ∉ keys wr:=fun hm=>by rw [List.contains_iff_mem.2 hm] at hw; cases hw
 have ho':upl own wr id=some (some (.box (some bl) t cs)):=by rw [jn _ _ _ hidw]; exact ho
 obtain ⟨b,l,q1,q2,q3⟩:=hR.ob id _ ho'
 have hbl:bl=b:=q2 bl rfl
 subst hbl
 refine hR.view (id:=id) (an2:=some bl) ho' (x0b ho') (fun q hq b hb=>by cases hq; rw [q1] at hb; exact Option.some.inj hb) fun k v hv => ?_
 refine x0c (fun v hv => ?_) k v hv
 exact ⟨bl,q1,hv⟩
theorem x87 {x:Operand} {b:Nat} {e:Int} (h:0≤e) (hx:evS f x = .dat (vval (ptI b e))):Stp P ⟨dst,.nilCheck x,ty,pos,af,gd⟩ f ⟨false,[],[],.dat (vval (.pointer (some ⟨b,e.toNat,none⟩)))⟩:=
 x86 (by rw [hx,w1l h])
variable {κ τ:Type} {an:Option Nat} {t kt et:TypeId} {T:MT κ τ} {l:List (κ×τ)} {x y:Operand} {id:Nat}
end
end Go.Proofs.YtndabcepiekebaaGreatDoor
