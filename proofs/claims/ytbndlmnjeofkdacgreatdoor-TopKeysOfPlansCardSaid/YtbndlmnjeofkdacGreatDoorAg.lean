/- The abstract machine: structs that hold own rows or maps: built, put into a box. -/
import Derived.Test.YtbndlmnjeofkdacGreatDoorDr
namespace Go.Proofs.YtbndlmnjeofkdacGreatDoor
open Go.RowKit
set_option linter.unusedVariables false
abbrev Rds:=List (Nat×Option (Option AObj))
def w0o (rd:Rds) (s:Slot) (ws:List Cmp):Prop:=(∃ us,y59 s us∧ws=us.map .dat)∨(∃ id n e size es,s = .row id n∧(id,some (some (.row e size es)))∈rd∧n=es.length∧ws=[.row id n])∨(∃ id,s = .mp id∧ws=[.mp id])
def RepK (g:Gh) (w:World) (M:Blks) (cs:List Cmp) (l:List Value):Prop:=l.length=cs.length∧∀ (j:Nat) (c:Cmp),cs[j]?=some c→∃ x,l[j]?=some x∧RepC g w M c x∧x.oneCell'=true
theorem v4l {rd:Rds} {g:Gh} {w:World} {M:Blks} {s:Slot} {ws:List Cmp} {v:Value} (h:w0o rd s ws) (hv:RepS g w M s v) (hrd:∀ id e size es,(id,some (some (.row e size es)))∈rd→RepO g w M id (.row e size es)):RepK g w M ws v.cells.toList:=by
 rcases h with ⟨us,h1,rfl⟩ | ⟨id,n,e,size,es,rfl,h1,rfl,rfl⟩ | ⟨id,rfl,rfl⟩
 ·obtain ⟨h2,h3⟩:=x2g h1 hv
  refine ⟨by rw [List.length_map]; exact h2,fun j c hj => ?_⟩
  rw [List.getElem?_map] at hj
  obtain ⟨u,h4,rfl⟩:=Option.map_eq_some_iff.1 hj
  exact h3 j u h4
 ·obtain ⟨v',xs,q1,q2,_⟩:=hrd id e size es h1
  have hv':g.sv id es.length=some v:=hv
  rw [hv'] at q1
  cases q1
  have h1:v.oneCell'=true:=by
   rcases q2.2 with ⟨rfl,_⟩ | ⟨b,cap,cur,rfl,_⟩
   ·rfl
   ·rfl
  rw [y54 h1]
  refine ⟨rfl,fun j c hj => ?_⟩
  cases j with
  | zero=>cases hj; exact ⟨v,rfl,hv',h1⟩
  | succ j=>cases hj
 ·obtain ⟨b,h2,rfl⟩:=hv
  have h1:(Value.map (some b)).oneCell'=true:=rfl
  rw [y54 h1]
  refine ⟨rfl,fun j c hj => ?_⟩
  cases j with
  | zero=>cases hj; exact ⟨_,rfl,⟨b,h2,rfl⟩,h1⟩
  | succ j=>cases hj
def putC (us:List Cmp) (off:Nat) (ws:List Cmp):List Cmp:=us.take off++ws++us.drop (off+ws.length)
def x2m:List Cmp→List (Nat×List Cmp)→List Cmp
 | us,[]=>us
 | us,(off,ws)::ps=>x2m (putC us off ws) ps
def y9c (rd:Rds) (f:Nat→Slot) (pl:Nat→Option (Nat×Nat)) (total:Nat):List (Nat×Operand)→List (Nat×List Cmp)→Prop
 | [],[]=>True
 | (i,x)::ps,(off,ws)::pv=>pl i=some (off,ws.length)∧w0o rd (evS f x) ws∧Nat.ble (off+ws.length) total=true∧y9c rd f pl total ps pv
 | _,_=>False
theorem v3j {rd:Rds} {f:Nat→Slot} {g:Gh} {w:World} {M:Blks} {pl:Nat→Option (Nat×Nat)} {ev:Operand→Value} (hrd:∀ id e size es,(id,some (some (.row e size es)))∈rd→RepO g w M id (.row e size es)):∀ (ps:List (Nat×Operand)) (pv:List (Nat×List Cmp)) (us:List Cmp) (cells:Array Value),y9c rd f pl us.length ps pv→(∀ p,p∈ps→RepS g w M (evS f p.2) (ev p.2))→RepK g w M us cells.toList →
  ∃ cells',Instr.fill pl cells (ps.map fun p=>(p.1,ev p.2))=some cells'∧RepK g w M (x2m us pv) cells'.toList:=by
 intro ps
 induction ps with
 | nil =>
  intro pv us cells h _ hc
  cases pv with
  | nil=>exact ⟨cells,rfl,hc⟩
  | cons _ _=>cases h
 | cons p ps ih =>
  obtain ⟨i,x⟩:=p
  intro pv us cells h hv hc
  cases pv with
  | nil=>cases h
  | cons q pv =>
   obtain ⟨off,ws⟩:=q
   obtain ⟨h1,h2,h3,h4⟩:=h
   have h3:=Nat.le_of_ble_eq_true h3
   have hx:=v4l h2 (hv (i,x) (by simp)) hrd
   have hcl:cells.size=us.length:=by simpa using hc.1
   have hxl:(ev x).cells.size=ws.length:=by simpa using hx.1
   have hus:(putC us off ws).length=us.length:=by unfold putC; simp; omega
   obtain ⟨f1,f2⟩:=x1v (ev x).cells.toList 0 off cells (by simp; omega)
   have hfold:(ev x).cells.zipIdx.foldl (fun cs (p:Value×Nat)=>cs.setIfInBounds (off+p.2) p.1) cells=((ev x).cells.toList.zipIdx 0).foldl (fun cs (p:Value×Nat)=>cs.setIfInBounds (off+p.2) p.1) cells:=by
    rw [← Array.foldl_toList,Array.toList_zipIdx]
   obtain ⟨cells',r1,r2⟩:=ih pv (putC us off ws) (((ev x).cells.toList.zipIdx 0).foldl (fun cs (p:Value×Nat)=>cs.setIfInBounds (off+p.2) p.1) cells) (by rw [hus]; exact h4) (fun p hp=>hv p (List.mem_cons_of_mem _ hp)) ⟨by simp only [Array.length_toList]; rw [f1,hus,hcl],fun j u hj=>by
    rw [Array.getElem?_toList,f2 j]
    simp only [Array.length_toList,Nat.add_zero]
    unfold putC at hj
    by_cases hr:off≤j∧j < off+(ev x).cells.size
    ·rw [if_pos hr]
     rw [List.append_assoc,List.getElem?_append_right (by simp; omega),List.getElem?_append_left (by simp; omega)] at hj
     have:j - (us.take off).length=j - off:=by simp; omega
     rw [this] at hj
     exact hx.2 _ u hj
    ·rw [if_neg hr]
     have hj':us[j]?=some u:=by
      rcases Nat.lt_or_ge j off with hl | hl
      ·rw [List.append_assoc,List.getElem?_append_left (by simp; omega),List.getElem?_take,if_pos hl] at hj
       exact hj
      ·rw [List.getElem?_append_right (by simp; omega),List.getElem?_drop] at hj
       have:off+ws.length+(j - (us.take off++ws).length)=j:=by simp; omega
       rw [this] at hj
       exact hj
     have:=hc.2 j u hj'
     simpa using this⟩
   refine ⟨cells',?_,r2⟩
   simp only [List.map_cons,Instr.fill,h1,hxl,ne_eq,not_true_eq_false,decide_false,Bool.false_or]
   rw [if_neg (by simp; omega),hfold]
   exact r1
section
variable {P:Program} {f:Nat→Slot} {dst:Option Tmp} {ty:TypeId} {pos:String} {af:Array Edge} {gd:Option (Nat×Bool)}
theorem w3p {o:Oper} {s:Slot} (rd:Rds) (h:∀ (X:Ctx) (own:Own) (g:Gh) (a:Act) (w:World),(∀ x,x∈o.op.operands→RepS g w (Mof X g own) (evS f x) (a.eval x))→(∀ id e size es,(id,some (some (.row e size es)))∈rd→RepO g w (Mof X g own) id (.row e size es))→∃ v,(execOp a.eval o).run P w = .ok (.value v) w∧RepS g w (Mof X g own) s v) :
  Stp P o f ⟨false,rd,[],s⟩:=by
 intro X f' own g a w Q hr hd hx hrd K hK
 obtain ⟨v,h1,h2⟩:=h X own g a w (fun x hm=>by rw [← hx x hm]; exact hr.ev x) (fun id e size es hm=>hr.ob id _ (hrd _ hm))
 unfold Oper.wp
 rw [h1]
 exact hK g v w (hr.put o.dst s v hd h2)
theorem w4o {t:TypeId} {ps:Array (Nat×Operand)} {zs:List Value} {pls:List (Nat×Nat)} (rd:Rds) (pv:List (Nat×List Cmp)) (hz:tyZ P t=some zs) (hp:tyP P t=some pls) (h1:zs.all (·.oneCell')=true) (hpv:y9c rd f (fun i=>pls[i]?) zs.length ps.toList pv) :
  Stp P ⟨dst,.build t ps,ty,pos,af,gd⟩ f ⟨false,rd,[],.comp false (x2m (zs.map fun z => .dat (vval z)) pv)⟩:=
 w3p rd fun X own g a w h hrd=>by
  unfold tyZ at hz
  cases hi:P.info? t with
  | none=>rw [hi] at hz; cases hz
  | some i =>
   rw [hi] at hz
   cases hzz:i.zero with
   | none=>simp [hzz] at hz
   | some z =>
    simp [hzz] at hz
    have e1:z.cells=zs.toArray:=by rw [← hz]
    unfold tyP at hp
    cases hu:P.underlying t with
    | none=>rw [hu] at hp; cases hp
    | some d =>
     rw [hu] at hp
     cases d <;> simp only at hp <;> try (cases hp; done)
     rename_i fs
     have hpl:=x6p (P:=P) w fs.toList pls hp
     have hCs:RepK g w (Mof X g own) (zs.map fun z=>Cmp.dat (vval z)) zs.toArray.toList:=by
      refine ⟨by simp,fun j u hj => ?_⟩
      rw [List.getElem?_map] at hj
      cases hq:zs[j]? with
      | none=>rw [hq] at hj; cases hj
      | some x=>rw [hq] at hj; cases hj; exact ⟨x,rfl,rfl,(List.all_eq_true.1 h1) x (List.mem_of_getElem? hq)⟩
     obtain ⟨cells,r1,r2⟩:=v3j (ev:=a.eval) hrd ps.toList pv (zs.map fun z=>Cmp.dat (vval z)) zs.toArray (by simp only [List.length_map]; exact hpv) (fun p hp=>h p.2 (by simp only [Op.operands]; simp; exact ⟨p.1,by simpa using hp⟩)) hCs
     refine ⟨.agg cells,?_,cells.toList,by simp,r2.1,fun j c hj=>let ⟨x,s1,s2,s3⟩:=r2.2 j c hj; ⟨x,s1,s2,fun _=>s3⟩⟩
     have hm:(fs.mapM fun fl=>do pure (fl.offset,← sizeOf fl.type):Sem (Array (Nat×Nat))).run P w = .ok pls.toArray w:=by
      rw [Array.mapM_eq_mapM_toList]
      simp only [map_eq_pure_bind,Sem.run_bind,hpl,Result.andThen_ok,Sem.run_pure]
     have hmap:(ps.map fun (i,x)=>(i,a.eval x)).toList=ps.toList.map fun p=>(p.1,a.eval p.2):=by simp
     have hpls:(fun i:Nat=>pls.toArray[i]?)=fun i:Nat=>pls[i]?:=by funext i; simp
     have hzv:(zeroValue t).run P w = .ok z w:=by simp [zeroValue,typeInfo,hi,hzz]
     simp only [execOp,Instr.build,hzv,Sem.run_bind,Sem.run_pure,Result.andThen_ok,run_underlying hu,hm,e1,hmap,hpls,r1]
theorem w3m {o:Oper} {s s':Slot} {rd wr:Rds} {b:Bool} (h:Stp P o f ⟨b,rd,wr,s⟩) (e:s'=s):Stp P o f ⟨b,rd,wr,s'⟩:=e ▸ h
theorem w4p (id:Nat) {t:TypeId} {x:Operand} {cs:List Cmp} (hx:evS f x = .comp false cs):Stp P ⟨dst,.box t x,ty,pos,af,gd⟩ f ⟨false,[(id,none)],[(id,some (some (.box none t (cs.map Cmp.s))))],.ptr id 0⟩:=by
 refine y2i fun X own g a w h => ?_
 have h2:=h x (by simp [Op.operands])
 rw [hx] at h2
 obtain ⟨l,h3,h4,h5⟩:=h2
 refine ⟨l,?_,by simp [h4],fun j s hs => ?_⟩
 ·simp [execOp,Instr.box,newVar,newRow,h3,Value.cells]
 ·rw [List.getElem?_map] at hs
  obtain ⟨c,h6,rfl⟩:=Option.map_eq_some_iff.1 hs
  obtain ⟨x,q1,q2,q3⟩:=h5 j c h6
  refine ⟨x,q1,?_,q3 rfl⟩
  cases c <;> exact q2
variable {ops:Array Oper} {own:Own} {os:List Oper} {lg:List (List Nat×List Nat)} {K:(Nat→Slot)→Own→List (List Nat×List Nat)→Prop}
end
end Go.Proofs.YtbndlmnjeofkdacGreatDoor
