/- The abstract machine: maps whose elements are pointers to the boxes of a family; such a map given up. -/
import Derived.Test.YtnnfdgngnoamoaaGreatDoorFam
import Derived.Test.YtnnfdgngnoamoaaGreatDoorAlt
namespace Go.Proofs.YtnnfdgngnoamoaaGreatDoor
open Go.RowKit Go.ChangeMaps Go.MapKept
set_option linter.unusedVariables false
def ptO:Option Nat→Value
 | none => .pointer none
 | some b=>PB b
section
variable {κ τ:Type}
def EPb (f:Nat→Nat) (E:List (κ×τ)):List (κ×Option Nat):=E.mapIdx fun i p=>(p.1,some (f i))
def OPb (t:TypeId) (C:τ→List V) (f:Nat→Nat) (E:List (κ×τ)):List AObj:=E.mapIdx fun i p => .box (some (f i)) t ((C p.2).map .dat)
def fx (f:Nat→Nat) (i b:Nat):Nat→Nat:=fun j=>if j=i then b else f j
theorem y4q (f:Nat→Nat) (p:κ×τ) (E:List (κ×τ)):EPb f (p::E)=(p.1,some (f 0))::EPb (fun i=>f (i+1)) E:=by
 unfold EPb; rw [List.mapIdx_cons]
theorem z41:∀ (E:List (κ×τ)) (f:Nat→Nat) (k:κ),(lkG E k=none∧lkG (EPb f E) k=none∧(∀ v,ptG E k v=E++[(k,v)])∧∀ v,ptG (EPb f E) k v=EPb f E++[(k,v)]) ∨
  ∃ i a,E[i]?=some (k,a)∧lkG E k=some a∧lkG (EPb f E) k=some (some (f i))∧∀ v,ptG E k v=E.set i (k,v)
 | [],f,k => .inl ⟨rfl,rfl,fun _=>rfl,fun _=>rfl⟩
 | p::E,f,k=>by
  by_cases h:p.1=k
  ·refine .inr ⟨0,p.2,by rw [← h]; rfl,by rw [lkG,if_pos h],by rw [y4q,lkG,if_pos h],fun v=>by rw [ptG,if_pos h]; rfl⟩
  ·rcases z41 E (fun i=>f (i+1)) k with ⟨h1,h2,h3,h4⟩ | ⟨i,a,h1,h2,h3,h4⟩
   ·exact .inl ⟨by rw [lkG,if_neg h]; exact h1,by rw [y4q,lkG,if_neg h]; exact h2,fun v=>by rw [ptG,if_neg h,h3]; rfl,fun v=>by rw [y4q,ptG,if_neg h,h4]; rfl⟩
   ·exact .inr ⟨i+1,a,h1,by rw [lkG,if_neg h]; exact h2,by rw [y4q,lkG,if_neg h]; exact h3,fun v=>by rw [ptG,if_neg h,h4]; rfl⟩
theorem Yo {f:Nat→Nat} {E:List (κ×τ)} {i:Nat}:(EPb f E)[i]?=E[i]?.map fun p=>(p.1,some (f i)):=by
 unfold EPb; rw [List.getElem?_mapIdx]
theorem y4o {t:TypeId} {C:τ→List V} {f:Nat→Nat} {E:List (κ×τ)} {i:Nat}:(OPb t C f E)[i]?=E[i]?.map fun p => .box (some (f i)) t ((C p.2).map .dat):=by
 unfold OPb; rw [List.getElem?_mapIdx]
theorem y0b {t:TypeId} {C:τ→List V} {f:Nat→Nat} {E:List (κ×τ)} {i:Nat} {p:κ×τ} (h:E[i]?=some p):(OPb t C f E)[i]?=some (.box (some (f i)) t ((C p.2).map .dat)):=by
 rw [y4o,h]; rfl
theorem y4p {f:Nat→Nat} {E:List (κ×τ)} {i:Nat} {k:κ} {a:τ} (v:τ) (h:E[i]?=some (k,a)):EPb f (E.set i (k,v))=EPb f E:=by
 refine List.ext_getElem? fun j => ?_
 rw [Yo,Yo,List.getElem?_set]
 by_cases hj:i=j
 ·subst hj
  have:i < E.length:=(List.getElem?_eq_some_iff.1 h).1
  rw [h]
  simp [this]
 ·rw [if_neg hj]
theorem x50 {f:Nat→Nat} {E:List (κ×τ)} (b:Nat) (p:κ×τ):EPb (fx f E.length b) (E++[p])=EPb f E++[(p.1,some b)]:=by
 refine List.ext_getElem? fun j => ?_
 have hl:(EPb f E).length=E.length:=by unfold EPb; simp
 rw [Yo]
 rcases Nat.lt_trichotomy j E.length with h | h | h
 ·rw [List.getElem?_append_left h,List.getElem?_append_left (by omega),Yo]
  unfold fx
  rw [if_neg (by omega)]
 ·subst h
  rw [List.getElem?_append_right (Nat.le_refl _),List.getElem?_append_right (by omega),hl]
  simp [fx]
 ·rw [List.getElem?_append_right (by omega),List.getElem?_append_right (by omega),hl]
  have:∀ {α:Type} (x:α),[x][j - E.length]?=none:=fun x=>by
   rw [List.getElem?_eq_none_iff]; simp; omega
  rw [this,this]; rfl
theorem w7s {t:TypeId} {C:τ→List V} {f:Nat→Nat} {E:List (κ×τ)}:∀ o,o∈OPb t C f E→clO o=true:=by
 intro o ho
 obtain ⟨i,hi⟩:=List.getElem?_of_mem ho
 rw [y4o] at hi
 obtain ⟨p,_,rfl⟩:=Option.map_eq_some_iff.1 hi
 refine List.all_eq_true.2 fun s hs => ?_
 obtain ⟨u,_,rfl⟩:=List.mem_map.1 hs
 rfl
theorem vo {c:Nat} {t:TypeId} {C:τ→List V} {f:Nat→Nat} {E:List (κ×τ)}:Big (fam c 0 (OPb t C f E)):=y33 w7s
theorem z05 {c:Nat} {l:List AObj} {k:Nat} {own:Own} (h:∀ j o,j≠k→l[j]?=some o→own (4 * j+c+1000)=some (some o)):∀ p,p∈fam c 0 l→p.1≠4 * k+c+1000→own p.1=some (some p.2):=fun p hp hne=>by
 obtain ⟨j,o,h1,rfl⟩:=Ym.1 hp
 rw [Nat.zero_add] at hne ⊢
 exact h j o (fun e=>hne (by rw [e])) h1
theorem z5z {c k j:Nat} {lits:List (Nat×AObj)} {l:List AObj} {o:AObj} (hs:ka lits=true) (hR:Big (fam c 0 l)) (hj:l[j]?=some o) (hne:j≠k):ows (lits++(fam c 0 l).filter fun p=>p.1 != 4 * k+c+1000) (4 * j+c+1000)=some (some o):=
 xu (p:=(4 * j+c+1000,o)) hs (hR.filter _) (List.mem_filter.2 ⟨jp hj,by simp; omega⟩)
theorem xw {c j:Nat} {lits:List (Nat×AObj)} {l:List AObj} {o:AObj} (hs:ka lits=true) (hR:Big (fam c 0 l)) (hj:l[j]?=some o):ows (lits++fam c 0 l) (4 * j+c+1000)=some (some o):=
 xu (p:=(4 * j+c+1000,o)) hs hR (jp hj)
theorem Yn {c:Nat} {l:List AObj} {own:Own} (h:∀ j o,l[j]?=some o→own (4 * j+c+1000)=some (some o)):∀ p,p∈fam c 0 l→own p.1=some (some p.2):=fun p hp=>by
 obtain ⟨j,o,h1,rfl⟩:=Ym.1 hp
 rw [Nat.zero_add]
 exact h j o h1
theorem kq {own:Own} {l R:List (Nat×AObj)}:subO own (l++R)↔subO own l∧∀ p,p∈R→own p.1=some (some p.2):=by
 rw [z0h,z0h]
 exact ⟨fun h=>⟨fun p hp=>h p (List.mem_append_left _ hp),fun p hp=>h p (List.mem_append_right _ hp)⟩,fun h p hp=>(List.mem_append.1 hp).elim (h.1 p) (h.2 p)⟩
theorem Ys {l R:List (Nat×AObj)} (hs:ka l=true) (hR:Big R):subO (ows (l++R)) (l++R):=z0h.2 fun _ hp=>(kr (y17 hs hR)).2 hp
theorem Qf {P:Program} {X:Ctx} {Q:Exit→(Nat→Slot)→Own→Prop} {f:Nat→Slot} {c:Code} {l R:List (Nat×AObj)} (ids:List Nat) (hR:Big R) (hi:(ids.all fun i=>Nat.blt i 1000 && !((l.map (·.1)).contains i))=true)
  (h:AWP P X c Q f (upl (ows (l++R)) (ids.map fun i=>(i,none)))):AWP P X c Q f (ows (l++R)):=by
 have e:∀ ids:List Nat,(ids.all fun i=>Nat.blt i 1000 && !((l.map (·.1)).contains i))=true→upl (ows (l++R)) (ids.map fun i=>(i,none))=ows (l++R):=by
  intro ids
  induction ids with
  | nil=>intro _; rfl
  | cons i ids ih =>
   intro hi
   rw [List.all_cons,Bool.and_eq_true,Bool.and_eq_true] at hi
   funext k
   simp only [List.map_cons,upl]
   by_cases hk:k=i
   ·subst hk
    have e1:Nat.beq k k=true:=by simp
    simp only [e1,cond_true]
    exact (w0c hR hi.1.1 (by simpa using hi.1.2)).symm
   ·simp only [qu hk,cond_false]
    exact congrFun (ih hi.2) k
 rw [e ids hi] at h; exact h
theorem w7w {f:Nat→Nat} {E:List (κ×τ)} (g:κ×τ→τ):EPb f (E.map fun p=>(p.1,g p))=EPb f E:=by
 refine List.ext_getElem? fun j => ?_
 rw [Yo,Yo,List.getElem?_map,Option.map_map]; rfl
def vmpA (T:MT κ (Option Nat)) (size:Nat) (C:τ→List V) (l:List (κ×τ)):V:=
  ⟨fun w M v=>∃ b es clock f,v = .map (some b)∧¬ M b∧w.heap[b]?=some (.map es clock)∧EnG T es clock (EPb f l)∧∀ i p,l[i]?=some p→xg w M (f i) 0 size [C p.2],true,
   fun {w w' M M' v} he ⟨b,es,clock,f,h1,h2,h3,h4,h5⟩=>⟨b,es,clock,f,h1,fun hm=>h2 (he.sub b (vg h3) hm),(he.block b (vg h3) h2 ⟨_,h3,rfl⟩).trans h3,h4,fun i p hp=>xg.keep (es:=[C p.2]) he (h5 i p hp)⟩,
   fun _ _ _ v ⟨b,_,_,_,h1,_⟩=>by rw [h1]; rfl⟩
variable {P:Program} {f:Nat→Slot} {dst:Option Tmp} {ty:TypeId} {pos:String} {af:Array Edge} {gd:Option (Nat×Bool)} {t kt et:TypeId} {x y:Operand}
theorem x02 {T:MT κ (Option Nat)} {size:Nat} {C:τ→List V} {l:List (κ×τ)} {a:τ} (k:κ) (hT:TyG P t kt et T) (hc:T.ce=ptO) (hx:evS f x = .dat (vmpA T size C l)) (hy:evS f y = .dat (T.kV k)) (hk:T.ok k) (ha:lkG l k=some a) :
  Stp P ⟨dst,.lookup t x y false,ty,pos,af,gd⟩ f ⟨false,[],[],.dat (qw [C a] 0 0)⟩:=
 vp fun X own g ac w h=>by
  have h1:=h x (by simp [Op.operands])
  rw [hx] at h1
  have h3:=h y (by simp [Op.operands])
  rw [hy] at h3
  have h3:=hT.kin _ _ _ _ h3
  obtain ⟨b,es,clock,fb,h2,_,q2,q3,q4⟩:=h1
  have:=y8t hT false q2 q3 hk
  simp only [Bool.false_eq_true,if_false] at this
  rcases z41 l fb k with ⟨g1,_⟩ | ⟨i,a',g1,g2,g3,_⟩
  ·rw [g1] at ha; cases ha
  ·rw [g2] at ha; cases ha
   rw [g3,hc] at this
   exact ⟨ptO ((some (some (fb i))).getD T.z),by simp only [execOp,h2,h3,Sem.run_bind,this,Result.andThen_ok,Sem.run_pure],fb i,0,size,by show PB (fb i)=_; simp,q4 i _ g1⟩
theorem y0x {e t':TypeId} {o:Option Nat} (ht:P.underlying t=some (.pointer e)) (hx:evS f x = .dat (vval (ptO o))):Stp P ⟨dst,.binOp .eql t x (.const (.pointer none)) t',ty,pos,af,gd⟩ f ⟨false,[],[],.dat (zr o.isNone)⟩:=by
 cases o with
 | none=>exact x70 ht hx
 | some b =>
  refine vp fun X own g a w h => ?_
  have h2:=vt (h x (by simp [Op.operands])) hx
  have hp:P.underlying t=some (.pointer (P.pointee t)):=by simp [Program.pointee,ht]
  refine ⟨.bool false,?_,rfl⟩
  have hc:a.eval (.const (.pointer none)) = .pointer none:=rfl
  simp only [execOp,h2,hc,Sem.run_bind,ptO]
  simp [eqGuard,run_eql_pointer_nil w t _ hp]
theorem w5d {T:MT κ (Option Nat)} {t:TypeId} {size c:Nat} {C:τ→List V} {fb:Nat→Nat} {l:List (κ×τ)} {b:Nat} {es:Array MapEntry} {cl:Nat} {s:Slot} (hs:s = .dat (vmpX b es cl)) (hE:EnG T es cl (EPb fb l)) (hz:∀ x,(C x).length=size) (g:Gh) (w:World) (M M':Blks) (v:Value) (he:Ext M M' w w)
  (hR:∀ p,p∈fam c 0 (OPb t C fb l)→RepO g w M p.1 p.2∧∀ b,obk g p.1 p.2=some b→¬ M' b) (hv:RepS g w M s v):(vmpA T size C l).p w M' v:=by
 subst hs
 obtain ⟨h1,h2,h3⟩:(vmpX b es cl).p w M' v:=(vmpX b es cl).keep he hv
 refine ⟨b,es,cl,fb,h1,h2,h3,hE,fun i p hp => ?_⟩
 obtain ⟨⟨b',lv,q1,q0,q2,q3,q4⟩,hM⟩:=hR _ (jp (y0b hp))
 have hb:=q0 (fb i) rfl
 rw [← hb] at q1 q2
 refine ⟨hM _ q1,lv.toArray,t,(0,0),q2,fun el hel=>by rw [List.mem_singleton.1 hel]; exact hz _,fun k cc el u hk hc => ?_⟩
 rcases k with _ | k
 ·cases hk
  obtain ⟨x,x1,x2,x3⟩:=q4 cc (.dat u) (by rw [List.getElem?_map,hc]; rfl)
  exact ⟨x,by simpa using x1,u.keep he x2,x3⟩
 ·simp at hk
end
end Go.Proofs.YtnnfdgngnoamoaaGreatDoor
