/- The abstract machine: arrays of one-cell elements, built and compared. -/
import Derived.Test.YtndabcepiekebaaGreatDoorMc
import Derived.WideLaws
import Derived.Laws.Entries
import Derived.Laws.IdiomStrings
namespace Go.Proofs.YtndabcepiekebaaGreatDoor
open Go.RowKit
set_option linter.unusedVariables false
def tyA (P:Program) (t:TypeId):Option (Nat×TypeId×TypeDesc):=
 match P.underlying t with
 | some (.array n e)=>if P.eqGuardType P.depth t=false∧tyS P e=some (false,1) then (P.underlying e).map fun d=>(n,e,d) else none
 | _=>none
theorem x5z {P:Program} {t e:TypeId} {n:Nat} {d:TypeDesc} (h:tyA P t=some (n,e,d)):P.underlying t=some (.array n e)∧P.eqGuardType P.depth t=false∧tyS P e=some (false,1)∧P.underlying e=some d:=by
 unfold tyA at h
 split at h
 ·rename_i m e' hu
  split at h
  ·rename_i hq
   cases he:P.underlying e' with
   | none=>rw [he] at h; cases h
   | some d'=>rw [he] at h; cases h; exact ⟨hu,hq.1,hq.2,he⟩
  ·cases h
 ·cases h
def eqVA (d:TypeDesc):List Value→List Value→Option Bool
 | [],[]=>some true
 | a::as1,b::bs=>(eqV d a b).bind fun r=>(eqVA d as1 bs).map (r && ·)
 | _,_=>none
theorem w5n {P:Program} {w:World} {d:TypeDesc} {xs ys:Array Value} {body:Nat→(Option Bool×Unit)→Sem (ForInStep ((Option Bool×Unit)))}
  (hb:∀ i a b r,xs[i]?=some a→ys[i]?=some b→eqV d a b=some r→(body i (none,())).run P w = .ok (if r then .yield (none,()) else .done (some false,())) w):∀ (as1 bs:List Value) (i:Nat) (r:Bool),eqVA d as1 bs=some r→(∀ j v,as1[j]?=some v→xs[i+j]?=some v)→(∀ j v,bs[j]?=some v→ys[i+j]?=some v) →
  (forIn (List.range' i as1.length) ((none,()):(Option Bool×Unit)) body).run P w = .ok (if r then (none,()) else (some false,())) w:=by
 intro as1
 induction as1 with
 | nil =>
  intro bs i r h _ _
  cases bs with
  | nil=>cases h; simp
  | cons _ _=>cases h
 | cons a as1 ih =>
  intro bs i r h hx hy
  cases bs with
  | nil=>cases h
  | cons b bs =>
   simp only [eqVA] at h
   cases he:eqV d a b with
   | none=>rw [he] at h; cases h
   | some r1 =>
    rw [he] at h
    cases hr:eqVA d as1 bs with
    | none=>rw [hr] at h; cases h
    | some r2 =>
     rw [hr] at h
     cases h
     have h1:=hb i a b r1 (by simpa using hx 0 a rfl) (by simpa using hy 0 b rfl) he
     have h2:=ih bs (i+1) r2 hr (fun j v h=>by have:=hx (j+1) v (by simpa using h); rw [← this]; congr 1; omega) (fun j v h=>by have:=hy (j+1) v (by simpa using h); rw [← this]; congr 1; omega)
     simp only [List.length_cons,List.range'_succ,List.forIn_cons,Sem.run_bind,h1,Result.andThen_ok]
     cases r1
     ·simp
     ·simpa using h2
section
variable {P:Program} {f:Nat→Slot} {dst:Option Tmp} {ty:TypeId} {pos:String} {af:Array Edge} {gd:Option (Nat×Bool)}
theorem x9x {e:TypeId} (h:tyS P e=some (false,1)) (w:World):(sizeOf e).run P w = .ok 1 w:=by
 obtain ⟨d,i,d1,d2,d3,d4⟩:=y72 h
 simp_all [sizeOf,typeInfo]
theorem x0f {t e:TypeId} {n:Nat} {d:TypeDesc} {r:Bool} (w:World) (m:Nat) (as1 bs:List Value) (ht:tyA P t=some (n,e,d)) (hn:as1.length=n) (h:eqVA d as1 bs=some r):(Op.equalIn (m+2) t (.agg as1.toArray) (.agg bs.toArray)).run P w = .ok r w:=by
 obtain ⟨h1,h2,h3,h4⟩:=x5z ht
 subst hn
 have hs:=x9x h3 w
 rw [Op.equalIn]
 simp only [Sem.run_bind,run_underlying h1,Result.andThen_ok,hs]
 rw [Std.Legacy.Range.forIn_eq_forIn_range']
 have hl:Std.Legacy.Range.size [:as1.length]=as1.length:=by simp [Std.Legacy.Range.size]
 rw [hl]
 have:=w5n (P:=P) (w:=w) (d:=d) (xs:=as1.toArray) (ys:=bs.toArray) (body:=fun i r=>do
   let a ← part e as1.toArray (i * 1)
   let b ← part e bs.toArray (i * 1)
   let c ← Op.equalIn (m+1) e a b
   if (!c)=true then pure (ForInStep.done (some false,())) else pure (ForInStep.yield (none,()))) (fun i a b r hx hy he=>by
  have p1:=x6a h3 as1.toArray (i * 1) a (by simpa using hx) w
  have p2:=x6a h3 bs.toArray (i * 1) b (by simpa using hy) w
  have p3:=w60 w m h4 he
  simp only [Sem.run_bind,p1,p2,p3,Result.andThen_ok]
  cases r <;> simp) as1 bs 0 r h (fun j v h=>by simpa using h) (fun j v h=>by simpa using h)
 refine Eq.trans (congrArg (fun z=>Result.andThen z _) this) ?_
 cases r <;> simp
theorem w1a {t e t':TypeId} {n:Nat} {d:TypeDesc} {x y:Operand} {r:Bool} (as1 bs:List Value) (ht:tyA P t=some (n,e,d)) (hn:as1.length=n) (hx:evS f x = .dat (vagg (as1.map vval))) (hy:evS f y = .dat (vagg (bs.map vval))) (hr:eqVA d as1 bs=some r):Stp P ⟨dst,.binOp .eql t x y t',ty,pos,af,gd⟩ f ⟨false,[],[],.dat (z05 r)⟩:=
 z4n fun X own g a w h=>by
  have h1:=h x (by simp [Op.operands])
  have h2:=h y (by simp [Op.operands])
  rw [hx] at h1
  rw [hy] at h2
  have h1:=x9m h1
  have h2:=x9m h2
  have hq:=x5z ht
  refine ⟨.bool r,?_,rfl⟩
  have h4:=x0f (P:=P) w 9998 as1 bs ht hn hr
  simp only [execOp,h1,h2,Sem.run_bind,run_eqGuard_agg w _ t x y _ _ hq.2.1,Result.andThen_ok,run_eql_struct]
  rw [h4]
  rfl
theorem x3u {t e:TypeId} {n:Nat} {d:TypeDesc} {ps:Array (Nat×Operand)} {zs:List Value} (pv:List (Nat×List V)) (hz:tyZ P t=some zs) (ht:tyA P t=some (n,e,d)) (h1:zs.all (·.oneCell')=true) (hpv:x47 f (fun i=>some (i * 1,1)) zs.length ps.toList pv) :
  Stp P ⟨dst,.build t ps,ty,pos,af,gd⟩ f ⟨false,[],[],.dat (vagg (x9j (zs.map vval) pv))⟩:=
 z4n fun X own g a w h=>by
  obtain ⟨hu,_,h3,_⟩:=x5z ht
  have hs:=x9x h3 w
  unfold tyZ at hz
  cases hi:P.info? t with
  | none=>rw [hi] at hz; cases hz
  | some i =>
   rw [hi] at hz
   cases hzz:i.zero with
   | none=>simp [hzz] at hz
   | some z =>
    simp [hzz] at hz
    have e1:z.cells=zs.toArray:=by rw [← hz]
    have hCs:Cs w (Mof X g own) (zs.map vval) zs.toArray.toList:=by
     refine ⟨by simp,fun j u hj => ?_⟩
     rw [List.getElem?_map] at hj
     cases hq:zs[j]? with
     | none=>rw [hq] at hj; cases hj
     | some x=>rw [hq] at hj; cases hj; exact ⟨x,rfl,rfl,(List.all_eq_true.1 h1) x (List.mem_of_getElem? hq)⟩
    obtain ⟨cells,r1,r2⟩:=w2n (ev:=a.eval) ps.toList pv (zs.map vval) zs.toArray (by simp only [List.length_map]; exact hpv) (fun p hp=>h p.2 (by simp only [Op.operands]; simp; exact ⟨p.1,by simpa using hp⟩)) hCs
    refine ⟨.agg cells,?_,cells.toList,by simp,r2⟩
    have hmap:(ps.map fun (i,x)=>(i,a.eval x)).toList=ps.toList.map fun p=>(p.1,a.eval p.2):=by simp
    have hzv:(zeroValue t).run P w = .ok z w:=by simp [zeroValue,typeInfo,hi,hzz]
    simp only [execOp,Instr.build,hzv,Sem.run_bind,Sem.run_pure,Result.andThen_ok,run_underlying hu,hs,e1,hmap,r1]
abbrev bxU (l:List Int):List V:=l.map fun x=>vval (.int .u8 x)
theorem w4e (id n:Nat) {t:TypeId} (hz:tyZ P t=some (List.replicate n (.int .u8 0))):Stp P ⟨dst,.alloc t,ty,pos,af,gd⟩ f ⟨false,[(id,none)],[(id,some (some (.box none t ((bxU (List.replicate n 0)).map .dat))))],.ptr id 0⟩:=by
 have h:=z2s (dst:=dst) (ty:=ty) (pos:=pos) (af:=af) (gd:=gd) (f:=f) id hz (List.all_eq_true.2 fun v hv=>by rw [List.eq_of_mem_replicate hv]; rfl)
 have e:(List.replicate n (Value.int .u8 0)).map x2k=(bxU (List.replicate n 0)).map .dat:=by simp [bxU,x2k]
 rw [e] at h
 exact h
theorem x51 {t e:TypeId} {n id:Nat} {d:TypeDesc} {x ix:Operand} {m:Int} (ht:tyA P t=some (n,e,d)) (hx:evS f x = .ptr id 0) (hi:evS f ix = .dat (vint m)) (hk:0≤m∧m < (n:Int)) :
  Stp P ⟨dst,.indexAddr t x ix,ty,pos,af,gd⟩ f ⟨false,[],[],.ptr id m.toNat⟩:=
 z4n fun X own g a w hh=>by
  have h2:=hh x (by simp [Op.operands])
  have h3:=y0m (hh ix (by simp [Op.operands])) hi
  rw [hx] at h2
  obtain ⟨b,q1,q2⟩:=h2
  obtain ⟨hu,_,h4,_⟩:=x5z ht
  have hs:=x9x h4 w
  refine ⟨.pointer (some ⟨b,m.toNat,none⟩),?_,b,q1,rfl⟩
  have e3:(⟨b,0,none⟩:Addr).add (m.toNat * 1)=⟨b,m.toNat,none⟩:=by rw [Addr.add_mid]; simp
  simp only [execOp,h3,q2,Instr.indexAt,asIntOf,Instr.sureAddr,Sem.run_bind,run_underlying hu,Result.andThen_ok,Sem.run_pure]
  rw [if_pos hk]
  simp only [Sem.run_bind,hs,Result.andThen_ok,Sem.run_pure,e3]
theorem y9r {t bt:TypeId} {p x:Operand} {id off:Nat} {an:Option Nat} {l:List Int} {y:Int} (ht:tyS P t=some (false,1)) (hp:evS f p = .ptr id off) (hx:evS f x = .dat (vval (.int .u8 y))) (ho:off < l.length) :
  Stp P ⟨dst,.store t p x,ty,pos,af,gd⟩ f ⟨false,[(id,some (some (.box an bt ((bxU l).map .dat))))],[(id,some (some (.box an bt ((bxU (l.set off y)).map .dat))))],.any⟩:=by
 have h:=z15 (dst:=dst) (ty:=ty) (pos:=pos) (af:=af) (gd:=gd) (an:=an) (bt:=bt) (cs:=(bxU l).map .dat) ht hp hx rfl (by simpa [Nat.blt_eq,bxU] using ho)
 have e:((bxU l).map Slot.dat).set off (.dat (vval (.int .u8 y)))=(bxU (l.set off y)).map .dat:=by simp [bxU,List.map_set]
 rw [e] at h
 exact h
theorem w4d {t e:TypeId} {n:Nat} {d:TypeDesc} {x y:Operand} {l:List Int} {m:Int} {C:Int→List V} (ht:tyA P t=some (n,e,d)) (hx:evS f x = .dat (y1q [bxU l] 0 0)) (hn:l.length=n) (hy:evS f y = .dat (vint m)) (hk:0≤m∧m≤(n:Int)) (hC:∀ n,C n=[vval (.int .u8 n)]) :
  Stp P ⟨dst,.slice t x (some y) none none,ty,pos,af,gd⟩ f ⟨false,[],[],.dat (vlst ((l.drop m.toNat).map C))⟩:=
 z4n fun X own g a w hh=>by
  have h2:=hh x (by simp [Op.operands])
  have h3:=y0m (hh y (by simp [Op.operands])) hy
  rw [hx] at h2
  obtain ⟨b,off,size,q1,hM,arr,te,fz,q3,q4,q5⟩:=h2
  obtain ⟨hu,_,h4,_⟩:=x5z ht
  have hs:=x9x h4 w
  obtain ⟨k,rfl⟩:=Int.eq_ofNat_of_zero_le hk.1
  have hkn:k≤n:=by omega
  subst hn
  refine ⟨.slice (some ⟨b,off+(if l.length=k then 0 else k),none⟩) (l.length - k) (l.length - k),?_,some ⟨b,off+(if l.length=k then 0 else k),none⟩,l.length - k,by simp,by simp,fun hne=>⟨b,_,1,rfl,hM,arr,te,fz,q3,fun el hel => ?_,fun j c el u hj hc => ?_⟩⟩
  ·have e1:(⟨b,off,none⟩:Addr).add (k * 1)=⟨b,off+k,none⟩:=by rw [Addr.add_mid,Nat.mul_one]
   simp only [Nat.zero_mul,Nat.add_zero] at q1
   simp only [execOp,h3,q1,Option.map_some,Option.map_none,Instr.sliceAt,Sem.run_bind,run_underlying hu,Result.andThen_ok,Instr.sureAddr,Sem.run_pure,Instr.sliceBounds,Instr.sliceBound,asIntOf]
   rw [if_pos ⟨by omega,by omega⟩]
   simp only [Sem.run_pure,Result.andThen_ok,hs,Int.toNat_natCast,e1]
   by_cases h0:l.length=k
   ·simp [h0]
   ·simp [h0]
  ·obtain ⟨x,_,rfl⟩:=List.mem_map.1 hel
   rw [hC]; rfl
  ·rw [List.getElem?_map,List.getElem?_drop] at hj
   cases hq:l[k+j]? with
   | none=>simp [hq] at hj
   | some z =>
    simp [hq] at hj
    subst hj
    have hlt:=(List.getElem?_eq_some_iff.1 hq).1
    have h0:¬ l.length=k:=by omega
    rw [hC] at hc
    cases c with
    | succ c=>simp at hc
    | zero =>
     simp at hc
     subst hc
     obtain ⟨x,s1,s2,s3⟩:=q5 0 (k+j) (bxU l) (vval (.int .u8 z)) rfl (by simp [bxU,hq])
     refine ⟨x,?_,s2,s3⟩
     rw [if_neg h0]
     rw [← s1]; congr 1; omega
theorem x4t {t:TypeId} {x ix:Operand} {l:List UInt8} {kd:IntKind} {m:Int} {c:UInt8} (ht:P.underlying t=some .string) (hx:evS f x = .dat (vstr l)) (hi:evS f ix = .dat (vval (.int kd m))) (hk:at? l m=some c) :
  Stp P ⟨dst,.index t x ix,ty,pos,af,gd⟩ f ⟨false,[],[],.dat (vval (.int .u8 (c.toNat:Int)))⟩:=
 z4n fun X own g a w h=>by
  have h1:=y0m (h x (by simp [Op.operands])) hx
  have h2:=y0m (h ix (by simp [Op.operands])) hi
  obtain ⟨⟨q1,q2⟩,q3⟩:=z6x hk
  obtain ⟨k,rfl⟩:=Int.eq_ofNat_of_zero_le q1
  rw [Int.toNat_natCast] at q3
  refine ⟨.int .u8 (c.toNat:Int),?_,rfl⟩
  have hlt:=(List.getElem?_eq_some_iff.1 q3).1
  have e1:(ByteArray.mk l.toArray)[k]?=some c:=by
   have:k < (ByteArray.mk l.toArray).size:=by simpa [ByteArray.size] using hlt
   rw [getElem?_pos (ByteArray.mk l.toArray) k this]
   rw [List.getElem?_eq_getElem hlt] at q3
   exact q3
  simp [execOp,h1,h2,Instr.index,asIntOf,run_underlying ht,e1]
theorem x8l {t t':TypeId} {x y:Operand} {k:IntKind} {m n:Int} (hx:evS f x = .dat (vval (.int k m))) (hy:evS f y = .dat (vval (.int k n))) (h1:n≠0) :
  Stp P ⟨dst,.binOp .quo t x y t',ty,pos,af,gd⟩ f ⟨false,[],[],.dat (vval (.int k (k.wrap (m.tdiv n))))⟩:=
 y1r hx hy fun w=>by simp [eqGuard,binOp,Op.intDiv,h1]
theorem x2b {s d e:TypeId} {x:Operand} {l:Bs} {C:Int→List V} (hs:P.underlying s=some .string) (hd:P.underlying d=some (.slice e)) (he:P.underlying e=some (.int .u8)) (hC:∀ n,C n=[vval (.int .u8 n)]) (hx:evS f x = .dat (vstr l)) :
  Stp P ⟨dst,.convert s d x,ty,pos,af,gd⟩ f ⟨false,[],[],.dat (vlst ((y2o l).map C))⟩:=
 x8n fun X own g a w hlt h=>by
  have h1:=y0m (h x (by simp [Op.operands])) hx
  have hr:=run_bytes_of_string (P:=P) w s d e ⟨l.toArray⟩ hs hd he
  have hsz:(ByteArray.mk l.toArray).size=l.length:=by simp [ByteArray.size]
  have hge:=grownCap_ge w (ByteArray.mk l.toArray).size 0 e
  rw [hsz] at hr hge
  have hlen:((y2o l).map C).length=l.length:=by simp [y2o]
  refine ⟨_,_,by simp only [execOp,h1,Sem.run_bind,hr,Result.andThen_ok,Sem.run_pure]; rfl,((Kp.refl [] w).drew).alloc _,some ⟨w.heap.size,0,none⟩,grownCap w l.length 0 e,by rw [hlen],by rw [hlen]; exact hge,fun hne=>⟨w.heap.size,0,1,rfl,fun hM=>absurd (hlt _ hM) (Nat.lt_irrefl _),_,_,_,heap_alloc_new w.drew _,fun el hel => ?_,fun k c el u hk hc => ?_⟩⟩
  ·obtain ⟨y,_,rfl⟩:=List.mem_map.1 hel
   rw [hC]; rfl
  ·rw [List.getElem?_map] at hk
   cases hq:(y2o l)[k]? with
   | none=>rw [hq] at hk; cases hk
   | some y =>
    rw [hq] at hk
    cases hk
    rw [hC] at hc
    cases c with
    | succ c=>simp at hc
    | zero =>
     simp at hc
     subst hc
     refine ⟨.int .u8 y,?_,rfl,rfl⟩
     unfold y2o at hq
     rw [List.getElem?_map] at hq
     cases hz:l[k]? with
     | none=>rw [hz] at hq; cases hq
     | some b =>
      rw [hz] at hq
      cases hq
      have hkl:=(List.getElem?_eq_some_iff.1 hz).1
      unfold bytesRow
      rw [Array.getElem?_append_left (by simp; omega)]
      simp [hz]
theorem y89 {lf:List (Nat×Slot)} {lo:List (Nat×AObj)} (h1:(lf.all fun p=>okS (ows lo) p.2)=true) (h2:(lo.all fun p=>okO (ows lo) p.2)=true):okL lf lo=true:=by
 unfold okL
 rw [h1,h2]; rfl
theorem y9a {own:Own}:(([]:List (Nat×AObj)).all fun p=>okO own p.2)=true:=rfl
theorem y7n {own:Own} {p:Nat×AObj} {l:List (Nat×AObj)} (h:okO own p.2=true) (t:(l.all fun p=>okO own p.2)=true):((p::l).all fun p=>okO own p.2)=true:=by
 rw [List.all_cons,h,t]; rfl
theorem x2j {own:Own} {an:Option Nat} {t:TypeId} {l:List Int}:okO own (.box an t ((bxU l).map .dat))=true:=by
 simp only [okO,List.all_map,List.all_eq_true]
 intro v _
 rfl
end
end Go.Proofs.YtndabcepiekebaaGreatDoor
