/- Bills: models of what the translator does not print. -/
import Derived.Test.YtnnfdgngnoamoaaGreatDoorXbm
import Derived.Test.YtnnfdgngnoamoaaGreatDoorMl
namespace Go.Proofs.YtnnfdgngnoamoaaGreatDoor
set_option linter.unusedVariables false
noncomputable def vf (a:qp):qp:=if (decide (a.last_.State=2)) || (decide (a.last_.State=3)) then ⟨a.last_,a.last_⟩ else a
noncomputable def z6c (E:List (zu×qp)):Option (List (zu×qp)):=some (E.map fun p=>(p.1,vf p.2))
noncomputable def z6d (v1:zx) (x:zk) (E:List (zu×qp)) (a:qp):Option (List (zu×qp) ⊕ List (zu×qp)):=
 (z74 v1 a.last_ x).bind fun r=>some (.inl (ptG E ⟨x.App,x.Product⟩ ⟨a.on_,r.1⟩))
noncomputable def z1g (v1:zx) (fr:Int) (x:zk) (E:List (zu×qp)):Option (List (zu×qp) ⊕ List (zu×qp)):=
 (lkG E ⟨x.App,x.Product⟩).bind fun a=>(z0s a.last_.State).bind fun b=>if b && decide (fr < x.At) then z6d v1 x E ⟨a.last_,a.last_⟩ else z6d v1 x E a
noncomputable def z1f (v1:zx) (fr to_:Int) (x:zk) (E:List (zu×qp)):Option (List (zu×qp) ⊕ List (zu×qp)):=
 if decide (to_≤x.At) then (z6c E).bind fun r=>some (.inr r) else
 if x.App.length≤1000000000∧x.Product.length≤1000000000 then
  (if (lkG E ⟨x.App,x.Product⟩).isNone then (y7d).bind fun z=>z1g v1 fr x (E++[(⟨x.App,x.Product⟩,⟨⟨0,[],0,0⟩,z⟩)]) else z1g v1 fr x E) else none
noncomputable def z79 (v1:zx) (v2:List zk) (v3:Int):Option (List (zu×qp)):=
 if v2.length≤1000000000 then forL (fun _ x E=>z1f v1 (wr (v3 * 2592000000)) (wr ((wr (v3+1)) * 2592000000)) x E) z6c 0 v2 [] else none
noncomputable def allP {α ρ:Type} (m:List α→Option ρ) (l:List α):Option ρ:=open Classical in if h:∃ r,∀ p:List α,p.Perm l→m p=some r then some h.choose else none
theorem y9o {α ρ:Type} {m:List α→Option ρ} {l:List α} {r:ρ} (h:allP m l=some r):∀ p:List α,p.Perm l→m p=some r:=by
 unfold allP at h
 split at h
 ·rename_i hx
  cases h
  exact hx.choose_spec
 ·cases h
theorem y9n {α ρ:Type} {m:List α→Option ρ} {l:List α} {r:ρ} (h:∀ p:List α,p.Perm l→m p=some r):allP m l=some r:=by
 have hx:∃ r,∀ p:List α,p.Perm l→m p=some r:=⟨r,h⟩
 unfold allP
 rw [dif_pos hx]
 have h1:=hx.choose_spec l (List.Perm.refl _)
 rw [h l (List.Perm.refl _)] at h1
 exact h1.symm
noncomputable def srtA (p1:zu→zu→Option Int) (ks:List zu):Option (List zu):=allP (fun p=>(y2i p p1).bind fun r=>if r.length=p.length then some r else none) ks
noncomputable def srtS (ks:List Bs):Option (List Bs):=allP (fun p=>z2a p) ks
noncomputable def sumC (ls:List yx) (c:Int):Option Int:=forL (fun _ x s=>some (.inl (wr (s+x.Cents)))) some 0 ls c
noncomputable def z1a (ls:List yx) (ow:Bs) (O:List (Bs×zm)):Option (List (Bs×zm) ⊕ List zm):=
 (lkG O ow).bind fun b=>if b.Lines.length+ls.length≤1000000000 then (sumC ls b.Cents).bind fun c=>some (.inl (ptG O ow ⟨b.Owner,b.Month,b.Lines++ls,c⟩)) else none
noncomputable def z3d (v1:zx) (all:List (zu×qp)) (v2:List zy) (v4:List (zz×Int)) (v5:Int) (k:zu) (O:List (Bs×zm)):Option (List (Bs×zm) ⊕ List zm):=
 if k.app_.length≤1000000000∧k.product_.length≤1000000000 then (lkG all k).bind fun a=>(z40 v4 k v5).bind fun n=>(z0u a v1 k v5 n).bind fun ls =>
  if decide ((ls.length:Int)=0) then some (.inl O) else (z0t v2 k.app_).bind fun i=>(at? v2 i.1).bind fun ap =>
   if ap.Owner.length≤1000000000 then (if (lkG O ap.Owner).isNone then z1a ls ap.Owner (O++[(ap.Owner,⟨ap.Owner,v5,[],0⟩)]) else z1a ls ap.Owner O) else none
 else none
noncomputable def z57 (O:List (Bs×zm)) (o:Bs) (out:List zm):Option (List zm ⊕ List zm):=
 (lkG O o).bind fun b=>if o.length≤1000000000∧out.length+1≤1000000000 then some (.inl (out++[b])) else none
noncomputable def z3c (O:List (Bs×zm)):Option (List zm):=
 if O.length≤1000000000 then (srtS (O.map (·.1))).bind fun os=>if os.length≤1000000000 then forL (fun _ o out=>z57 O o out) some 0 os [] else none else none
noncomputable def z78 (v1:zx) (v2:List zy) (v3:List zk) (v4:List (zz×Int)) (v5:Int):Option (List zm):=
 (z79 v1 v3 v5).bind fun all=>if all.length≤1000000000 then (srtA Qx (all.map (·.1))).bind fun keys=>if keys.length≤1000000000 then forL (fun _ k O=>z3d v1 all v2 v4 v5 k O) z3c 0 keys [] else none else none
noncomputable def z56 (ow:Bs) (mo:Int) (x:yx) (O:List (Bs×zm)):Option (List (Bs×zm) ⊕ List (Bs×zm)):=
 if ow.length≤1000000000∧((lkG O ow).getD ⟨[],0,[],0⟩).Lines.length+1≤1000000000 then
  some (.inl (ptG O ow ⟨ow,mo,((lkG O ow).getD ⟨[],0,[],0⟩).Lines++[x],wr (((lkG O ow).getD ⟨[],0,[],0⟩).Cents+x.Cents)⟩)) else none
noncomputable def z3a (v1:zx) (v3:List zk) (v4:List zz) (v5:Int) (a:zy) (p:yh) (O:List (Bs×zm)):Option (List (Bs×zm) ⊕ List (Bs×zm)):=
 (z2f v1 v3 v4 a.Key p.Key v5).bind fun ls=>if ls.length≤1000000000 then (forL (fun _ x O=>z56 a.Owner v5 x O) some 0 ls O).bind fun O'=>some (.inl O') else none
noncomputable def z3b (v1:zx) (v3:List zk) (v4:List zz) (v5:Int) (a:zy) (O:List (Bs×zm)):Option (List (Bs×zm) ⊕ List zm):=
 if v1.Products.length≤1000000000 then (forL (fun _ p O=>z3a v1 v3 v4 v5 a p O) some 0 v1.Products O).bind fun O'=>some (.inl O') else none
noncomputable def z09 (O:List (Bs×zm)):Option (List zm):=
 if O.length+1≤1000000000 then allP (fun p=>(z7x p z2i).bind fun r=>if r.length=p.length then some r else none) (O.map (·.2)) else none
noncomputable def z4x (v1:zx) (v2:List zy) (v3:List zk) (v4:List zz) (v5:Int):Option (List zm):=
 if v2.length≤1000000000 then forL (fun _ a O=>z3b v1 v3 v4 v5 a O) z09 0 v2 [] else none
end Go.Proofs.YtnnfdgngnoamoaaGreatDoor
