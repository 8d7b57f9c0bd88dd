/- slices.Insert at elements of many cells: copies of rows of such elements, two rows apart, a call that takes an own row, a place and one element. No program. -/
import Derived.Test.YtbndlmnjeofkdabGreatDoorMc
import Derived.Shelf.Spec.SlicesInsertGrow
import Derived.Maps.AppendAt
namespace Go.Proofs.YtbndlmnjeofkdabGreatDoor
open Go.RowKit
set_option linter.unusedVariables false
set_option linter.unusedSimpArgs false
theorem z0l {P:Program} (w:World) (dT sT ty elem:TypeId) (size:Nat) (g o dLen dCap:Nat) (a:Addr) (sLen sCap:Nat) (cur:Array Value) (t:TypeId) (cs:List Value)
  (hu:P.underlying dT=some (.slice elem)) (hs:(P.info? elem).map (·.size)=some size)
  (hg:w.heap[g]?=some (.cells cur t (0,0))) (hn:cs.length=Nat.min sLen dLen * size)
  (hsrc:∀ j v,cs[j]?=some v→w.cell? (a.add j)=some v) (hfit:o+cs.length≤cur.size) (h1:∀ v∈cs,v.oneCell'=true) :
  (Builtin.copy_ #[dT,sT] ty #[.slice (some ⟨g,o,none⟩) dLen dCap,.slice (some a) sLen sCap]).run P w =
   .ok (goInt (Nat.min sLen dLen)) (w.setRow g (cur.toList.take o++cs++cur.toList.drop (o+cs.length)).toArray):=by
 have hl:=run_loadCells_list (P:=P) w a cs hsrc
 have hst:=run_storeCells_at P g o t cs 0 cur w hg (by simpa using hfit) h1
 cases hq:P.info? elem with
 | none=>simp [hq] at hs
 | some i =>
  have hi:i.size=size:=by simpa [hq] using hs
  simp [Builtin.copy_,run_underlying hu,Builtin.lenOf,Builtin.firstCells,sizeOf,typeInfo,hq,hi,← hn,hl,hst]
theorem y0n {P : Program} (w : World) (tS tR e : TypeId) (ht : P.underlying tS = some (.slice e)) (size : Nat) (hz : ∀ w, (Go.sizeOf e).run P w = .ok size w)
    (a b : Addr) (la ca lb cb : Nat) (hne : a.block ≠ b.block) (tA tB : TypeId) (kA kB : Nat)
    (hsa : w.shape? a.block = some (tA, kA)) (hsb : w.shape? b.block = some (tB, kB)) (hkA : kA ≠ 0)
    (hfb : w.frozen? b = false) (hfe : w.frozen? { block := b.block, off := kB } = false) :
    (Extern.SlicesOverlaps.overlaps #[tS, tS] #[tR] #[.slice (some a) la ca, .slice (some b) lb cb]).run P w = .ok (.bool false) w := by
  have hnb : (a.block != b.block) = true := by simpa using hne
  have hnb' : (a.block == b.block) = false := by simpa using hne
  change Sem.run P (α := Value) (do
    let some t := (#[tS, tS] : Array TypeId)[0]? | stuck "slices.overlaps: no parameter types"
    let .slice elem ← underlying t | stuck "slices.overlaps: slice type expected"
    let size ← sizeOf elem
    match (some a : Option Addr), (some b : Option Addr) with
    | some a, some b =>
      if la = 0 ∨ lb = 0 ∨ size = 0 then pure (Value.bool false)
      else if a.block != b.block && (← frozen a) && (← frozen b) then unsupported .addressObserved
      else do
        if a.block != b.block then do
          noView a; noView b
          if ← mayBeOne a b then return Value.bool ((← choose (.extern "sameAddr.stringBytes" 2)) == 1)
        pure (Value.bool (a.block == b.block && a.off < b.off + lb * size && b.off < a.off + la * size))
    | _, _ => pure (Value.bool false)) w = _
  by_cases h0 : la = 0 ∨ lb = 0 ∨ size = 0
  · simp [run_underlying ht, hz, h0]
  · cases kA with
    | zero => exact absurd rfl hkA
    | succ kA =>
      cases hfa : w.frozen? a <;> cases hfa2 : w.frozen? { block := a.block, off := kA + 1 } <;>
        simp [run_underlying ht, hz, h0, hnb, hnb', frozen, noView, viewAt, mayBeOne, stringish, shape, Sem.run, hsa, hsb, hfb, hfe, hfa, hfa2]
section
variable {α:Type} {size:Nat} (encs:α→List Value) (hlen:∀ x,(encs x).length=size)
include hlen
theorem z3k:∀ l:List α,(l.flatMap encs).length=l.length * size
 | []=>by simp
 | y::l=>by rw [List.flatMap_cons,List.length_append,hlen,z3k l,List.length_cons,Nat.succ_mul]; omega
theorem z3l:∀ (l:List α) (k c:Nat),c < size→(l.flatMap encs)[k * size+c]?=(l[k]?).bind fun y=>(encs y)[c]?
 | [],k,c,h=>by simp
 | y::l,0,c,h=>by
  rw [List.flatMap_cons,Nat.zero_mul,Nat.zero_add,List.getElem?_append_left (by rw [hlen]; exact h)]
  simp
 | y::l,k+1,c,h=>by
  have h2:(k+1) * size+c=size+(k * size+c):=by rw [Nat.succ_mul]; omega
  rw [List.flatMap_cons,List.getElem?_append_right (by rw [hlen]; omega),hlen,h2,Nat.add_sub_cancel_left,z3l l k c h]
  simp
theorem y4h (hsz:0 < size) (l:List α) (cs:List Value) (h1:cs.length=l.length * size) (h2:∀ (k c:Nat) (y:α),l[k]?=some y→c < size→cs[k * size+c]?=(encs y)[c]?):cs=l.flatMap encs:=by
 apply List.ext_getElem?
 intro m
 have hm:m=m / size * size+m % size:=by rw [Nat.mul_comm]; exact (Nat.div_add_mod m size).symm
 have hc:m % size < size:=Nat.mod_lt _ hsz
 rcases Nat.lt_or_ge (m / size) l.length with hk | hk
 ·have h3:=h2 (m / size) (m % size) l[m / size] (List.getElem?_eq_getElem hk) hc
  have h4:=z3l encs hlen l (m / size) (m % size) hc
  rw [← hm] at h3 h4
  rw [h3,h4,List.getElem?_eq_getElem hk]
  rfl
 ·have h5:l.length * size≤m:=by
   have:=Nat.mul_le_mul_right size hk
   omega
  rw [List.getElem?_eq_none (by omega),List.getElem?_eq_none (by rw [z3k encs hlen]; omega)]
end
theorem y4g {α:Type} {P:Program} {fn:Nat} {e:TypeId} {size:Nat} (encs:α→List Value) (hsz:0 < size) (hlen:∀ x,(encs x).length=size) (hone:∀ x v,v∈encs x→v.oneCell'=true) (hok:wi P fn=true)
  (l:List α) (i:Nat) (x:α)
  (h:∀ (v:Value) (w:World) (vb voff vc:Nat),w.ownsRow 0 e size v l.length (l.flatMap encs)→v.ownBlock≠some vb→(∃ arr t fz,w.heap[vb]?=some (.cells arr t fz))→(∀ j u,(encs x)[j]?=some u→w.cell? ⟨vb,voff+j,none⟩=some u) →
   Calls P fn #[v,.int .i64 (i:Int),.slice (some ⟨vb,voff,none⟩) 1 vc] w fun r w'=>∃ v',r = .returned v'∧w'.ownsRow 0 e size v' (l.length+1) ((l.take i++x::l.drop i).flatMap encs)∧w.grownBy w' v.ownBlock∧(∀ k,v'.ownBlock=some k→v.ownBlock=some k∨w.heap.size≤k))
  (hi:i≤l.length) :
  FnG P fn [.row 0 l.length,.dat (vint (i:Int)),.dat (vlst [(encs x).map vval])] [(0,.row e size (l.map fun y=>(encs y).map vval))] (.row 900 (l.take i++x::l.drop i).length) [(900,.row e size ((l.take i++x::l.drop i).map fun y=>(encs y).map vval))]:=by
 have hyl:(l.take i++x::l.drop i).length=l.length+1:=by
  rw [List.length_append,List.length_cons,List.length_take,List.length_drop]; omega
 generalize hys:l.take i++x::l.drop i=ys at h hyl ⊢
 rw [hyl]
 refine ⟨hok,fun X A g w vs hw hm hvl hvs => ?_⟩
 obtain ⟨v,hv1,hv2⟩:=hvs 0 _ rfl
 have hsv0:g.sv 0 l.length=some v:=hv2
 obtain ⟨v1,hv3,hv4⟩:=hvs 1 _ rfl
 have hv4':v1 = .int .i64 (i:Int):=hv4
 obtain ⟨v2,hv5,hv6⟩:=hvs 2 _ rfl
 obtain ⟨AA,vc,hv7,hv8,hv9⟩:=hv6
 obtain ⟨vb,voff,size',rfl,hrow⟩:=hv9 (by simp)
 obtain ⟨hMb,arr,te,fz,hheap,hel,hcells⟩:=hrow
 have hss:size'=size:=by
  have:=hel ((encs x).map vval) (by simp)
  rw [List.length_map,hlen] at this
  exact this.symm
 subst hss
 have hvs':vs = #[v,.int .i64 (i:Int),.slice (some ⟨vb,voff,none⟩) 1 vc]:=by
  apply Array.ext_getElem?
  intro k
  rcases k with _ | _ | _ | k
  ·rw [hv1]; rfl
  ·rw [hv3,hv4']; rfl
  ·rw [hv5,hv7]; rfl
  ·rw [Array.getElem?_eq_none (by simp at hvl; omega),Array.getElem?_eq_none (by simp)]
 subst hvs'
 obtain ⟨v0,cs,o1,o2,o3,o4,o5⟩:=hm.ob 0 _ rfl
 simp only [List.length_map] at o1 o2
 rw [hsv0] at o1
 cases o1
 have hcs:cs=l.flatMap encs:=y4h encs hlen hsz l cs o2.1 fun k c y hk hc=>by
  have hc':c < (encs y).length:=by rw [hlen]; exact hc
  obtain ⟨z,q1,q2,q3⟩:=o5 k c ((encs y).map vval) (vval (encs y)[c]) (by rw [List.getElem?_map,hk]; rfl) (by rw [List.getElem?_map,List.getElem?_eq_getElem hc']; rfl)
  have q2:z=(encs y)[c]:=q2
  rw [q1,q2,List.getElem?_eq_getElem hc']
 subst hcs
 have hobk:obk g 0 (.row e size' (l.map fun y=>(encs y).map vval))=v.ownBlock:=by
  simp only [obk,List.length_map,hsv0,Option.bind_some]
 have hne:v.ownBlock≠some vb:=fun hb=>hMb (.inr ⟨0,_,rfl,hobk.trans hb⟩)
 have hmine:∀ b,v.ownBlock=some b→b∈X.S0∨X.w0.heap.size≤b:=fun b hb=>hm.mine 0 _ b rfl (hobk.trans hb)
 have hcell:∀ j u,(encs x)[j]?=some u→w.cell? ⟨vb,voff+j,none⟩=some u:=fun j u hj=>by
  have hj':=(List.getElem?_eq_some_iff.1 hj).1
  obtain ⟨z,q1,q2,q3⟩:=hcells 0 j ((encs x).map vval) (vval u) rfl (by rw [List.getElem?_map,hj]; rfl)
  have q2:z=u:=q2
  rw [Nat.zero_mul,Nat.add_zero] at q1
  rw [cell_of_row w vb _ _ _ _ hheap,q1,q2]
 refine (h v w vb voff vc o2 hne ⟨_,_,_,hheap⟩ hcell).mono ?_
 rintro r w' ⟨v',rfl,hown',hgr,hbk⟩
 have hkp:=hm.kp
 rw [← hw] at *
 have hkp':Kp X.S0 X.w0 w':=⟨hgr.os,hgr.tape,hgr.output,hgr.size,fun k hk hn=>hgr.block k hk (fun hb=>by
  rcases hmine k hb.symm with hh | hh
  ·exact hn hh
  ·omega)⟩
 let g':Gh:=⟨fun _=>none,fun j k=>if j=900∧k=ys.length then some v' else none⟩
 have hsv:g'.sv 900 ys.length=some v':=if_pos ⟨rfl,rfl⟩
 have hown:∀ id o,ows (anL A [(900,AObj.row e size' (ys.map fun y=>(encs y).map vval))]) id=some (some o)→id=900∧o = .row e size' (ys.map fun y=>(encs y).map vval):=by
  intro id o ho
  have:=(wu (by simp [anL]) (id:=id) (o:=o)).1 ho
  simpa [anL,anO] using this
 refine ⟨v',g',rfl,⟨hkp',hm.m0,?_,?_,?_,?_,?_⟩,by rw [← hyl]; exact hsv⟩
 ·intro id o ho'
  obtain ⟨rfl,rfl⟩:=hown id o ho'
  refine ⟨v',ys.flatMap encs,by simpa using hsv,by simpa [hyl] using hown',hsz,fun el hel => ?_,fun k c el u hk' hc => ?_⟩
  ·obtain ⟨y,_,rfl⟩:=List.mem_map.1 hel
   rw [List.length_map,hlen]
  ·rw [List.getElem?_map] at hk'
   cases hq:ys[k]? with
   | none=>rw [hq] at hk'; cases hk'
   | some y =>
    rw [hq] at hk'
    cases hk'
    rw [List.getElem?_map] at hc
    cases hq2:(encs y)[c]? with
    | none=>rw [hq2] at hc; cases hc
    | some z =>
     rw [hq2] at hc
     cases hc
     have hcl:=(List.getElem?_eq_some_iff.1 hq2).1
     rw [hlen] at hcl
     refine ⟨z,?_,rfl,hone y z (List.mem_of_getElem? hq2)⟩
     rw [z3l encs hlen ys k c hcl,hq]
     exact hq2
 ·intro id id' o o' b h1 h2 _ _
  rw [(hown id o h1).1,(hown id' o' h2).1]
 ·intro id o b h1 h2
  obtain ⟨rfl,rfl⟩:=hown id o h1
  simp only [obk,List.length_map,hsv,Option.bind_some] at h2
  rcases hbk b h2 with hh | hh
  ·exact hmine b hh
  ·exact .inr hh
 ·intro id h1
  refine ⟨rfl,fun n => ?_⟩
  have:id≠900:=by
   rintro rfl
   have:ows (anL A [(900,AObj.row e size' (ys.map fun y=>(encs y).map vval))]) 900=some (some (.row e size' (ys.map fun y=>(encs y).map vval))):=rfl
   rw [this] at h1; cases h1
  exact if_neg fun h=>this h.1
 ·intro id e' s' es' h1 k hk'
  obtain ⟨rfl,h3⟩:=hown id _ h1
  cases h3
  simp only [List.length_map] at hk'
  exact if_neg (by omega)
end Go.Proofs.YtbndlmnjeofkdabGreatDoor
