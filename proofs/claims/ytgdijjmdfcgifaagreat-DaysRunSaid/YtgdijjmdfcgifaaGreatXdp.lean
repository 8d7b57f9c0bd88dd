/- A day of calls, the document's way: all calls; contracts over one call's tries as contracts over all. -/
import Derived.Test.YtgdijjmdfcgifaaGreatXdi3
import Derived.Test.YtgdijjmdfcgifaaGreatXdo
import Derived.Test.YtgdijjmdfcgifaaGreatXdr
namespace Go.Proofs.YtgdijjmdfcgifaaGreat
open Go.RowKit Go.ChangeMaps Go.MapKept
set_option linter.unusedVariables false
set_option maxRecDepth 100000
section
variable {fh:Nat→Value} {cs:List yf} {E:Ec} {v:Ev}
noncomputable def famT (fh:Nat→Value) (cs:List yf):List (Nat×AObj):=fam 0 0 (cs.mapIdx fun i c=>dT (fh i) c.Tries)
theorem z3j {p:Nat×AObj}:p∈famT fh cs↔∃ j c,cs[j]?=some c∧p=(4 * j+1000,dT (fh j) c.Tries):=by
 unfold famT
 rw [z4t]
 constructor
 ·rintro ⟨k,o,h1,rfl⟩
  rw [List.getElem?_mapIdx] at h1
  obtain ⟨c,h2,rfl⟩:=Option.map_eq_some_iff.1 h1
  exact ⟨k,c,h2,by rw [Nat.zero_add]⟩
 ·rintro ⟨j,c,h1,rfl⟩
  exact ⟨j,_,by rw [List.getElem?_mapIdx,h1]; rfl,by rw [Nat.zero_add]⟩
theorem x0j {p:Nat×AObj} (hp:p∈famT fh cs):clO p.2=true:=by
 obtain ⟨j,c,_,rfl⟩:=z3j.1 hp; rfl
theorem wa:Big (famT fh cs):=by
 refine ⟨z7r,fun p hp => ?_,fun p hp=>x0j hp⟩
 obtain ⟨j,c,_,rfl⟩:=z3j.1 hp
 show 1000≤4 * j+1000; omega
def st4 (k i:Nat):Nat:=if i < 50 then i else if i=50 then 4 * k+1000 else i+4 * k+2000
theorem x5c (k i j:Nat) (h:st4 k i=st4 k j):i=j:=by
 unfold st4 at h
 split at h <;> split at h <;> (try split at h) <;> (try split at h) <;> omega
def offt (k:Nat) (p:Nat×AObj):Bool := !(decide (4 * k+1000=p.1))
theorem y3h {k:Nat} {p:Nat×AObj}:p∈(famT fh cs).filter (offt k)↔∃ j c,j≠k∧cs[j]?=some c∧p=(4 * j+1000,dT (fh j) c.Tries):=by
 rw [List.mem_filter,z3j]
 constructor
 ·rintro ⟨⟨j,c,h1,rfl⟩,h3⟩
  refine ⟨j,c,fun e => ?_,h1,rfl⟩
  subst e
  unfold offt at h3
  simp at h3
 ·rintro ⟨j,c,h0,h1,rfl⟩
  refine ⟨⟨j,c,h1,rfl⟩,?_⟩
  unfold offt
  simp; omega
theorem y97 {k:Nat} {c:yf} (hk:cs[k]?=some c) (p:Nat×AObj):p∈renL (st4 k) (dayO E fh v++[(50,dT (fh k) c.Tries)])++(famT fh cs).filter (offt k)↔p∈dayO E fh v++famT fh cs:=by
 have e:renL (st4 k) (dayO E fh v++[(50,dT (fh k) c.Tries)])=dayO E fh v++[(4 * k+1000,dT (fh k) c.Tries)]:=by
  unfold renL st4
  simp
 rw [e,List.mem_append,List.mem_append,List.mem_append,y3h,z3j]
 constructor
 ·rintro ((h | h) | ⟨j,c',h0,h1,h2⟩)
  ·exact .inl h
  ·exact .inr ⟨k,c,hk,by simpa using h⟩
  ·exact .inr ⟨j,c',h1,h2⟩
 ·rintro (h | ⟨j,c',h1,h2⟩)
  ·exact .inl (.inl h)
  ·by_cases hj:j=k
   ·subst hj
    rw [hk] at h1; cases h1
    exact .inl (.inr (by simpa using h2))
   ·exact .inr ⟨j,c',hj,h1,h2⟩
theorem y07 {k:Nat} {h:Value} {c:yf} {fe:Nat→Value}:((renL (st4 k) (dayO E fe v++[(50,dT h c.Tries)])++(famT fh cs).filter (offt k)).map (·.1)).Nodup:=by
 have e:renL (st4 k) (dayO E fe v++[(50,dT h c.Tries)])=dayO E fe v++[(4 * k+1000,dT h c.Tries)]:=by
  unfold renL st4
  simp
 rw [e,List.map_append]
 refine List.nodup_append.2 ⟨?_,List.Nodup.sublist (List.Sublist.map _ List.filter_sublist) wa.nd,fun a ha b' hb => ?_⟩
 ·simp
 ·obtain ⟨q,hq,rfl⟩:=List.mem_map.1 hb
  have h1:=wa.big q (List.mem_filter.1 hq).1
  have h2:=(List.mem_filter.1 hq).2
  unfold offt at h2
  simp at ha h2
  omega
theorem x53 {k:Nat} {c':yf} {h':Value} (p:Nat×AObj):p∈(famT fh cs).filter (offt k)↔p∈(famT (fxV fh k h') (cs.set k c')).filter (offt k):=by
 rw [y3h,y3h]
 constructor
 ·rintro ⟨j,c,h0,h1,h2⟩
  exact ⟨j,c,h0,by rw [List.getElem?_set_ne (Ne.symm h0)]; exact h1,by rw [z4r h0]; exact h2⟩
 ·rintro ⟨j,c,h0,h1,h2⟩
  rw [List.getElem?_set_ne (Ne.symm h0)] at h1
  rw [z4r h0] at h2
  exact ⟨j,c,h0,h1,h2⟩
theorem x0d {ι:Type} {P:Program} {fn:Nat} {args:List V} {res:ι→V} {k:Nat} {c c':yf} {v':ι→Ev} {h':ι→Value} (hk:cs[k]?=some c)
  (hF:FnI P fn args (dayO E fh v++[(50,dT (fh k) c.Tries)]) res (fun y=>dayO E (fxV fh k (h' y)) (v' y)++[(50,dT (h' y) c'.Tries)])) :
  FnI P fn args (dayO E fh v++famT fh cs) res (fun y=>dayO E (fxV fh k (h' y)) (v' y)++famT (fxV fh k (h' y)) (cs.set k c')):=by
 have hkl:=(List.getElem?_eq_some_iff.1 hk).1
 have cl:∀ (E:Ec) (fe:Nat→Value) (v:Ev) (h:Value) (c:yf) (p:Nat×AObj),p∈dayO E fe v++[(50,dT h c.Tries)]→clO p.2=true:=fun E fe v h c=>List.all_eq_true.1 rfl
 have nd:∀ (E:Ec) (fe:Nat→Value) (v:Ev) (h:Value) (c:yf),(List.map (fun p:Nat×AObj=>p.1) (dayO E fe v++[(50,dT h c.Tries)])).Nodup:=fun E fe v h c=>Zq rfl
 have h2:=x0b (st4 k) (x5c k) hF (cl _ _ _ _ _) (fun y=>cl _ _ _ _ _) (nd _ _ _ _ _) (fun y=>nd _ _ _ _ _)
 have clr:∀ (E:Ec) (fe:Nat→Value) (v:Ev) (h:Value) (c:yf) (p:Nat×AObj),p∈renL (st4 k) (dayO E fe v++[(50,dT h c.Tries)])→clO p.2=true:=fun E fe v h c p hp=>by
  obtain ⟨q,hq,rfl⟩:=List.mem_map.1 hp
  exact cl _ _ _ _ _ q hq
 have h3:=x0f (R:=(famT fh cs).filter (offt k)) h2 (clr _ _ _ _ _) (fun y=>clr _ _ _ _ _) (fun p hp=>x0j (List.mem_filter.1 hp).1) y07 (fun y=>y07)
 have sm:∀ (E:Ec) (fe:Nat→Value) (v:Ev),jh (dayO E fe v)=true:=fun _ _ _=>rfl
 refine x0c h3 (z53 y07 (Zb (sm _ _ _) wa) (y97 hk)) fun y=>z53 y07 (Zb (sm _ _ _) wa) fun p => ?_
 rw [← y97 (fh:=fxV fh k (h' y)) (cs:=cs.set k c') (k:=k) (c:=c') (by rw [List.getElem?_set_self hkl]),y05,List.mem_append,List.mem_append,x53 (c':=c') (h':=h' y)]
end
theorem x75 (E:Ec) (fh:Nat→Value) (v:Ev) (u:qv) (o:yf) (hk:at? v.out u.call_=some o) (hnx:u.call_ < v.next.length) (r:StD) (H:z10 E.s E.starts v.bench o v.again u=some r) :
  FnI Tryz.prog 80 [vval (PB E.b1),vagg (xn u)] (dayO E fh v++famT fh v.out) (fun _:Value×Value=>zu []) (fun y=>dayO E (fxV fh u.call_.toNat y.1) ⟨v.out.set u.call_.toNat r.2.1,z9r v.next u.call_.toNat r.2.2.2,v.way,v.sent,r.2.2.1,r.1,v.ho,v.hx,v.hy,y.2⟩++famT (fxV fh u.call_.toNat y.1) (v.out.set u.call_.toNat r.2.1)):=by
 obtain ⟨h1,h2⟩:=yp hk
 exact x0d h2 (x76 E fh v u o hk hnx r H)
theorem x73 (E:Ec) (fh:Nat→Value) (v:Ev) (call v3:Int) (o:yf) (hk:at? v.out call=some o) (hnx:call < v.next.length) (r:StS) (H:Ys E.s E.ph v.bench o v.way v.sent call v3=some r) (ht:r.1.Tries=o.Tries) :
  FnI Tryz.prog 81 [vval (PB E.b1),vint call,vint v3] (dayO E fh v++famT fh v.out) (fun _:Value=>zu []) (fun y=>dayO E fh ⟨v.out.set call.toNat r.1,v.next.set call.toNat (-1),r.2.1,r.2.2,v.again,v.bench,v.ho,v.hx,y,v.ha⟩++famT fh (v.out.set call.toNat r.1)):=by
 obtain ⟨h1,h2⟩:=yp hk
 have h3:=x74 E fh v call v3 o hk hnx r H
 have e:fxV fh call.toNat (fh call.toNat)=fh:=by
  funext j
  unfold fxV
  split
  ·rename_i h; rw [h]
  ·rfl
 have h4:=x0d (ι:=Value) (fh:=fh) (cs:=v.out) (E:=E) (v:=v) (k:=call.toNat) (c:=o) (c':=r.1) (h':=fun _=>fh call.toNat) (v':=fun y=>⟨v.out.set call.toNat r.1,v.next.set call.toNat (-1),r.2.1,r.2.2,v.again,v.bench,v.ho,v.hx,y,v.ha⟩) h2 (by rw [ht,e]; exact h3)
 rw [e] at h4
 exact h4
theorem w08 {s:qb} {ph:List zz} {bench:qn} {o:yf} {way:List qv} {sent call v3:Int} {r:StS} (H:Ys s ph bench o way sent call v3=some r):r.1.Tries=o.Tries:=by
 unfold Ys at H
 obtain ⟨l,_,H⟩:=bnd H
 by_cases hc:decide ((l.length:Int)=0)=true
 ·replace H:=ift hc H
  obtain ⟨st,_,H⟩:=bnd H
  cases H; rfl
 ·replace H:=iff_ (Bool.eq_false_iff.2 hc) H
  obtain ⟨_,H⟩:=gif H
  obtain ⟨ld,_,H⟩:=bnd H
  obtain ⟨best,_,H⟩:=bnd H
  obtain ⟨t,_,H⟩:=bnd H
  cases H; rfl
end Go.Proofs.YtgdijjmdfcgifaaGreat
