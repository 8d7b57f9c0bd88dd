/- The abstract machine: calls of function values that have caught an own box and data behind it. -/
import Derived.Test.YtnnfdgngnoamoaaGreatDoorDr
namespace Go.Proofs.YtnnfdgngnoamoaaGreatDoor
open Go.RowKit
set_option linter.unusedVariables false
section
variable {P:Program} {f:Nat→Slot} {dst:Option Tmp} {ty:TypeId} {pos:String} {af:Array Edge} {gd:Option (Nat×Bool)}
theorem x8l {us:List V} {t:Tmp} {fn id i0:Nat} {xs:List Operand} {ts:Array TypeId} {args:List Slot} {res:Slot} (σ:Nat→Nat) (L:List Ent) (nw:List (Nat×AObj)) (hF:FnG P fn (args++(.ptr i0 0::us.map .dat)) (jb L) res (vi L nw))
  (hf:evS f (.tmp t) = .dr id (fun b=>vfn fn (vval (.pointer (some ⟨b,0,none⟩))::us))) (hi:σ i0=id) (ha:z3h f σ xs args) (hm:matL σ L) (hb:z55 σ (args++(.ptr i0 0::us.map .dat)) res L nw=true) :
  Stp P ⟨dst,.call { callee := .value (.tmp t),args:=xs.toArray,argTypes:=ts },ty,pos,af,gd⟩ f ⟨false,rdOf σ L nw,wrOf σ L nw,rnS σ res⟩:=by
 unfold z55 at hb
 simp only [Bool.and_eq_true_iff] at hb
 obtain ⟨⟨⟨⟨⟨h1,h2⟩,h3⟩,h4⟩,h5⟩,h6⟩:=hb
 refine x06 σ L nw hF (fun g a w M hop => ?_) hm h1 h2 h3 h4 (by simp only [Bool.and_eq_true_iff]; exact h5) (by simp only [Bool.and_eq_true_iff]; exact h6)
 have hmem:∀ y,y∈Operand.tmp t::xs→RepS g w M (evS f y) (a.eval y):=fun y hy=>hop y (by simp only [Op.operands,Call.operands]; simp at hy ⊢; exact hy)
 have h0:=hmem (.tmp t) (by simp)
 rw [hf] at h0
 obtain ⟨b,hb0,l,hl,hT1,hT2⟩:=h0
 obtain ⟨hlen,hargs⟩:=y9i (ev:=a.eval) (fun n=>rfl) xs args ha fun y hy=>hmem y (List.mem_cons_of_mem _ hy)
 have hl1:l.length=us.length+1:=hT1
 have e3:(xs.map a.eval).length=args.length:=by rw [List.length_map,hlen]
 refine ⟨xs.toArray.map a.eval++l.toArray,x1o hF.1 (.tmp t) xs.toArray ts l.toArray a.eval hl w,by simp [hlen,hl1],fun j s hj => ?_⟩
 rcases Nat.lt_or_ge j args.length with hlt | hge
 ·rw [List.getElem?_append_left hlt] at hj
  obtain ⟨v,e1,e2⟩:=hargs j s hj
  refine ⟨v,?_,e2⟩
  have e4:((xs.map a.eval)++l)[j]?=some v:=by rw [List.getElem?_append_left (by omega)]; exact e1
  simpa using e4
 ·rw [List.getElem?_append_right hge] at hj
  have e5:∀ x,l[j - args.length]?=some x→(xs.toArray.map a.eval++l.toArray)[j]?=some x:=fun x hx=>by
   have e4:((xs.map a.eval)++l)[j]?=some x:=by rw [List.getElem?_append_right (by omega),e3]; exact hx
   simpa using e4
  cases hj0:j - args.length with
  | zero =>
   rw [hj0] at hj e5
   cases hj
   obtain ⟨x,x1,x2⟩:=hT2 0 _ rfl
   have x3:x = .pointer (some ⟨b,0,none⟩):=x2
   refine ⟨x,e5 x x1,?_⟩
   show ∃ b,g.bl (σ i0)=some b∧_
   rw [hi]
   exact ⟨b,hb0,x3⟩
  | succ k =>
   rw [hj0] at hj e5
   rw [List.getElem?_cons_succ,List.getElem?_map] at hj
   obtain ⟨u,hu,rfl⟩:=Option.map_eq_some_iff.1 hj
   obtain ⟨x,x1,x2⟩:=hT2 (k+1) u (by simpa using hu)
   exact ⟨x,e5 x x1,x2⟩
end
section
variable {P:Program} {f:Nat→Slot} {dst:Option Tmp} {ty:TypeId} {pos:String} {af:Array Edge} {ops:Array Oper} {os:List Oper} {own:Own} {lg:List (List Nat×List Nat)} {K:(Nat→Slot)→Own→List (List Nat×List Nat)→Prop}
theorem y6b {us:List V} {t:Tmp} {fn id i0:Nat} {xs:List Operand} {ts:Array TypeId} {args:List Slot} {res:Slot} (σ:Nat→Nat) (L:List Ent) (nw:List (Nat×AObj)) (hF:FnG P fn (args++(.ptr i0 0::us.map .dat)) (jb L) res (vi L nw)) (hrd:y4k own (rdOf σ L nw))
  (hf:evS f (.tmp t) = .dr id (fun b=>vfn fn (vval (.pointer (some ⟨b,0,none⟩))::us))) (hi:σ i0=id) (ha:z3h f σ xs args) (hm:matL σ L) (hb:z55 σ (args++(.ptr i0 0::us.map .dat)) res L nw=true)
  (h:seqA P ops os (updS f dst (rnS σ res)) (upl own (wrOf σ L nw)) (((vr L nw).map σ,(vr L nw).map σ)::lg) K) :
  seqA P ops (⟨dst,.call { callee := .value (.tmp t),args:=xs.toArray,argTypes:=ts },ty,pos,af,none⟩::os) f own lg K:=
 ⟨⟨false,rdOf σ L nw,wrOf σ L nw,rnS σ res⟩,⟨rfl,fun _=>⟨x8l σ L nw hF hf hi ha hm hb,y9m hrd⟩,fun h=>(by cases h),fun k hk=>by rw [y1p]; rw [z3i] at hk; exact hk⟩,by
  have e1:(keys (rdOf σ L nw),keys (wrOf σ L nw))=((vr L nw).map σ,(vr L nw).map σ):=by rw [y1p,z3i]
  show seqA P ops os _ _ ((keys (rdOf σ L nw),keys (wrOf σ L nw))::lg) K
  rw [e1]; exact h⟩
end
end Go.Proofs.YtnnfdgngnoamoaaGreatDoor
