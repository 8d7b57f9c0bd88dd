/- The abstract machine: arrays of one-cell elements, built and compared. -/
import Derived.Test.YtihjlkocfeoelaaGreatDoorMc
import Derived.WideLaws
import Derived.Laws.Entries
import Derived.Laws.IdiomStrings
namespace Go.Proofs.YtihjlkocfeoelaaGreatDoor
open Go.RowKit
set_option linter.unusedVariables false
def tyA (P:Program) (t:TypeId):Option (Nat×TypeId×TypeDesc):=
 match P.underlying t with
 | some (.array n e)=>if P.eqGuardType P.depth t=false∧tyS P e=some (false,1) then (P.underlying e).map fun d=>(n,e,d) else none
 | _=>none
theorem y9w {P:Program} {t e:TypeId} {n:Nat} {d:TypeDesc} (h:tyA P t=some (n,e,d)):P.underlying t=some (.array n e)∧P.eqGuardType P.depth t=false∧tyS P e=some (false,1)∧P.underlying e=some d:=by
 unfold tyA at h
 split at h
 ·rename_i m e' hu
  split at h
  ·rename_i hq
   cases he:P.underlying e' with
   | none=>rw [he] at h; cases h
   | some d'=>rw [he] at h; cases h; exact ⟨hu,hq.1,hq.2,he⟩
  ·cases h
 ·cases h
def eqVA (d:TypeDesc):List Value→List Value→Option Bool
 | [],[]=>some true
 | a::as1,b::bs=>(eqV d a b).bind fun r=>(eqVA d as1 bs).map (r && ·)
 | _,_=>none
theorem x33 {P:Program} {w:World} {d:TypeDesc} {xs ys:Array Value} {body:Nat→(Option Bool×Unit)→Sem (ForInStep ((Option Bool×Unit)))}
  (hb:∀ i a b r,xs[i]?=some a→ys[i]?=some b→eqV d a b=some r→(body i (none,())).run P w = .ok (if r then .yield (none,()) else .done (some false,())) w):∀ (as1 bs:List Value) (i:Nat) (r:Bool),eqVA d as1 bs=some r→(∀ j v,as1[j]?=some v→xs[i+j]?=some v)→(∀ j v,bs[j]?=some v→ys[i+j]?=some v) →
  (forIn (List.range' i as1.length) ((none,()):(Option Bool×Unit)) body).run P w = .ok (if r then (none,()) else (some false,())) w:=by
 intro as1
 induction as1 with
 | nil =>
  intro bs i r h _ _
  cases bs with
  | nil=>cases h; simp
  | cons _ _=>cases h
 | cons a as1 ih =>
  intro bs i r h hx hy
  cases bs with
  | nil=>cases h
  | cons b bs =>
   simp only [eqVA] at h
   cases he:eqV d a b with
   | none=>rw [he] at h; cases h
   | some r1 =>
    rw [he] at h
    cases hr:eqVA d as1 bs with
    | none=>rw [hr] at h; cases h
    | some r2 =>
     rw [hr] at h
     cases h
     have h1:=hb i a b r1 (by simpa using hx 0 a rfl) (by simpa using hy 0 b rfl) he
     have h2:=ih bs (i+1) r2 hr (fun j v h=>by have:=hx (j+1) v (by simpa using h); rw [← this]; congr 1; omega) (fun j v h=>by have:=hy (j+1) v (by simpa using h); rw [← this]; congr 1; omega)
     simp only [List.length_cons,List.range'_succ,List.forIn_cons,Sem.run_bind,h1,Result.andThen_ok]
     cases r1
     ·simp
     ·simpa using h2
section
variable {P:Program} {f:Nat→Slot} {dst:Option Tmp} {ty:TypeId} {pos:String} {af:Array Edge} {gd:Option (Nat×Bool)}
theorem x3b {e:TypeId} (h:tyS P e=some (false,1)) (w:World):(sizeOf e).run P w = .ok 1 w:=by
 obtain ⟨d,i,d1,d2,d3,d4⟩:=y1h h
 simp_all [sizeOf,typeInfo]
theorem y2c {t e:TypeId} {n:Nat} {d:TypeDesc} {r:Bool} (w:World) (m:Nat) (as1 bs:List Value) (ht:tyA P t=some (n,e,d)) (hn:as1.length=n) (h:eqVA d as1 bs=some r):(Op.equalIn (m+2) t (.agg as1.toArray) (.agg bs.toArray)).run P w = .ok r w:=by
 obtain ⟨h1,h2,h3,h4⟩:=y9w ht
 subst hn
 have hs:=x3b h3 w
 rw [Op.equalIn]
 simp only [Sem.run_bind,run_underlying h1,Result.andThen_ok,hs]
 rw [Std.Legacy.Range.forIn_eq_forIn_range']
 have hl:Std.Legacy.Range.size [:as1.length]=as1.length:=by simp [Std.Legacy.Range.size]
 rw [hl]
 have:=x33 (P:=P) (w:=w) (d:=d) (xs:=as1.toArray) (ys:=bs.toArray) (body:=fun i r=>do
   let a ← part e as1.toArray (i * 1)
   let b ← part e bs.toArray (i * 1)
   let c ← Op.equalIn (m+1) e a b
   if (!c)=true then pure (ForInStep.done (some false,())) else pure (ForInStep.yield (none,()))) (fun i a b r hx hy he=>by
  have p1:=y52 h3 as1.toArray (i * 1) a (by simpa using hx) w
  have p2:=y52 h3 bs.toArray (i * 1) b (by simpa using hy) w
  have p3:=x5a w m h4 he
  simp only [Sem.run_bind,p1,p2,p3,Result.andThen_ok]
  cases r <;> simp) as1 bs 0 r h (fun j v h=>by simpa using h) (fun j v h=>by simpa using h)
 refine Eq.trans (congrArg (fun z=>Result.andThen z _) this) ?_
 cases r <;> simp
theorem x0d {t e t':TypeId} {n:Nat} {d:TypeDesc} {x y:Operand} {r:Bool} (as1 bs:List Value) (ht:tyA P t=some (n,e,d)) (hn:as1.length=n) (hx:evS f x = .dat (vagg (as1.map vval))) (hy:evS f y = .dat (vagg (bs.map vval))) (hr:eqVA d as1 bs=some r):Stp P ⟨dst,.binOp .eql t x y t',ty,pos,af,gd⟩ f ⟨false,[],[],.dat (z02 r)⟩:=
 z35 fun X own g a w h=>by
  have h1:=h x (by simp [Op.operands])
  have h2:=h y (by simp [Op.operands])
  rw [hx] at h1
  rw [hy] at h2
  have h1:=y8y h1
  have h2:=y8y h2
  have hq:=y9w ht
  refine ⟨.bool r,?_,rfl⟩
  have h4:=y2c (P:=P) w 9998 as1 bs ht hn hr
  simp only [execOp,h1,h2,Sem.run_bind,run_eqGuard_agg w _ t x y _ _ hq.2.1,Result.andThen_ok,run_eql_struct]
  rw [h4]
  rfl
theorem y4b {t e:TypeId} {n:Nat} {d:TypeDesc} {ps:Array (Nat×Operand)} {zs:List Value} (pv:List (Nat×List V)) (hz:tyZ P t=some zs) (ht:tyA P t=some (n,e,d)) (h1:zs.all (·.oneCell')=true) (hpv:y46 f (fun i=>some (i * 1,1)) zs.length ps.toList pv) :
  Stp P ⟨dst,.build t ps,ty,pos,af,gd⟩ f ⟨false,[],[],.dat (vagg (y8v (zs.map vval) pv))⟩:=
 z35 fun X own g a w h=>by
  obtain ⟨hu,_,h3,_⟩:=y9w ht
  have hs:=x3b h3 w
  unfold tyZ at hz
  cases hi:P.info? t with
  | none=>rw [hi] at hz; cases hz
  | some i =>
   rw [hi] at hz
   cases hzz:i.zero with
   | none=>simp [hzz] at hz
   | some z =>
    simp [hzz] at hz
    have e1:z.cells=zs.toArray:=by rw [← hz]
    have hCs:Cs w (Mof X g own) (zs.map vval) zs.toArray.toList:=by
     refine ⟨by simp,fun j u hj => ?_⟩
     rw [List.getElem?_map] at hj
     cases hq:zs[j]? with
     | none=>rw [hq] at hj; cases hj
     | some x=>rw [hq] at hj; cases hj; exact ⟨x,rfl,rfl,(List.all_eq_true.1 h1) x (List.mem_of_getElem? hq)⟩
    obtain ⟨cells,r1,r2⟩:=x1g (ev:=a.eval) ps.toList pv (zs.map vval) zs.toArray (by simp only [List.length_map]; exact hpv) (fun p hp=>h p.2 (by simp only [Op.operands]; simp; exact ⟨p.1,by simpa using hp⟩)) hCs
    refine ⟨.agg cells,?_,cells.toList,by simp,r2⟩
    have hmap:(ps.map fun (i,x)=>(i,a.eval x)).toList=ps.toList.map fun p=>(p.1,a.eval p.2):=by simp
    have hzv:(zeroValue t).run P w = .ok z w:=by simp [zeroValue,typeInfo,hi,hzz]
    simp only [execOp,Instr.build,hzv,Sem.run_bind,Sem.run_pure,Result.andThen_ok,run_underlying hu,hs,e1,hmap,r1]
abbrev bxU (l:List Int):List V:=l.map fun x=>vval (.int .u8 x)
theorem x2u {t t':TypeId} {x y:Operand} {k:IntKind} {m n:Int} (hx:evS f x = .dat (vval (.int k m))) (hy:evS f y = .dat (vval (.int k n))) (h1:n≠0) :
  Stp P ⟨dst,.binOp .quo t x y t',ty,pos,af,gd⟩ f ⟨false,[],[],.dat (vval (.int k (k.wrap (m.tdiv n))))⟩:=
 z7a hx hy fun w=>by simp [eqGuard,binOp,Op.intDiv,h1]
theorem y3g {s d e:TypeId} {x:Operand} {l:Bs} {C:Int→List V} (hs:P.underlying s=some .string) (hd:P.underlying d=some (.slice e)) (he:P.underlying e=some (.int .u8)) (hC:∀ n,C n=[vval (.int .u8 n)]) (hx:evS f x = .dat (vstr l)) :
  Stp P ⟨dst,.convert s d x,ty,pos,af,gd⟩ f ⟨false,[],[],.dat (vlst ((z94 l).map C))⟩:=
 y43 fun X own g a w hlt h=>by
  have h1:=z58 (h x (by simp [Op.operands])) hx
  have hr:=run_bytes_of_string (P:=P) w s d e ⟨l.toArray⟩ hs hd he
  have hsz:(ByteArray.mk l.toArray).size=l.length:=by simp [ByteArray.size]
  have hge:=grownCap_ge w (ByteArray.mk l.toArray).size 0 e
  rw [hsz] at hr hge
  have hlen:((z94 l).map C).length=l.length:=by simp [z94]
  refine ⟨_,_,by simp only [execOp,h1,Sem.run_bind,hr,Result.andThen_ok,Sem.run_pure]; rfl,((Kp.refl [] w).drew).alloc _,some ⟨w.heap.size,0,none⟩,grownCap w l.length 0 e,by rw [hlen],by rw [hlen]; exact hge,fun hne=>⟨w.heap.size,0,1,rfl,fun hM=>absurd (hlt _ hM) (Nat.lt_irrefl _),_,_,_,heap_alloc_new w.drew _,fun el hel => ?_,fun k c el u hk hc => ?_⟩⟩
  ·obtain ⟨y,_,rfl⟩:=List.mem_map.1 hel
   rw [hC]; rfl
  ·rw [List.getElem?_map] at hk
   cases hq:(z94 l)[k]? with
   | none=>rw [hq] at hk; cases hk
   | some y =>
    rw [hq] at hk
    cases hk
    rw [hC] at hc
    cases c with
    | succ c=>simp at hc
    | zero =>
     simp at hc
     subst hc
     refine ⟨.int .u8 y,?_,rfl,rfl⟩
     unfold z94 at hq
     rw [List.getElem?_map] at hq
     cases hz:l[k]? with
     | none=>rw [hz] at hq; cases hq
     | some b =>
      rw [hz] at hq
      cases hq
      have hkl:=(List.getElem?_eq_some_iff.1 hz).1
      unfold bytesRow
      rw [Array.getElem?_append_left (by simp; omega)]
      simp [hz]
end
end Go.Proofs.YtihjlkocfeoelaaGreatDoor
