/- A day of calls: all calls; contracts over one call as contracts over all. -/
import Derived.Test.YtgdijjmdfcgifaaGreatXdh5
import Derived.Test.YtgdijjmdfcgifaaGreatFl
namespace Go.Proofs.YtgdijjmdfcgifaaGreat
open Go.RowKit Go.ChangeMaps Go.MapKept
set_option linter.unusedVariables false
set_option maxRecDepth 100000
section
variable {fb fm:Nat→Nat} {fh:Nat→Value} {cs:List yj} {D:Dc} {v:Dv}
noncomputable def famC (fb fm:Nat→Nat) (fh:Nat→Value) (cs:List yj):List (Nat×AObj):=
 fam 0 0 (cs.mapIdx fun i c=>oC (fb i) (fm i) (fh i) c)++(fam 1 0 (cs.mapIdx fun i c=>oM (fm i) c)++fam 2 0 (cs.mapIdx fun i c=>oR (fh i) c))
theorem Yp {p:Nat×AObj}:p∈famC fb fm fh cs↔∃ j c,cs[j]?=some c∧(p=(4 * j+1000,oC (fb j) (fm j) (fh j) c)∨p=(4 * j+1001,oM (fm j) c)∨p=(4 * j+1002,oR (fh j) c)):=by
 unfold famC
 rw [List.mem_append,List.mem_append]
 have key:∀ (c0:Nat) (g:Nat→yj→AObj),p∈fam c0 0 (cs.mapIdx g)↔∃ j c,cs[j]?=some c∧p=(4 * j+c0+1000,g j c):=fun c0 g=>by
  rw [z4t]
  constructor
  ·rintro ⟨k,o,h1,rfl⟩
   rw [List.getElem?_mapIdx] at h1
   obtain ⟨c,h2,rfl⟩:=Option.map_eq_some_iff.1 h1
   exact ⟨k,c,h2,by rw [Nat.zero_add]⟩
  ·rintro ⟨j,c,h1,rfl⟩
   exact ⟨j,g j c,by rw [List.getElem?_mapIdx,h1]; rfl,by rw [Nat.zero_add]⟩
 rw [key,key,key]
 constructor
 ·rintro (⟨j,c,h1,h2⟩ | ⟨j,c,h1,h2⟩ | ⟨j,c,h1,h2⟩)
  ·exact ⟨j,c,h1,.inl h2⟩
  ·exact ⟨j,c,h1,.inr (.inl h2)⟩
  ·exact ⟨j,c,h1,.inr (.inr h2)⟩
 ·rintro ⟨j,c,h1,h2 | h2 | h2⟩
  ·exact .inl ⟨j,c,h1,h2⟩
  ·exact .inr (.inl ⟨j,c,h1,h2⟩)
  ·exact .inr (.inr ⟨j,c,h1,h2⟩)
theorem x0k {p:Nat×AObj} (hp:p∈famC fb fm fh cs):clO p.2=true:=by
 obtain ⟨j,c,_,rfl | rfl | rfl⟩:=Yp.1 hp <;> rfl
theorem qw:Big (famC fb fm fh cs):=by
 refine ⟨?_,fun p hp => ?_,fun p hp=>x0k hp⟩
 ·unfold famC
  rw [List.map_append,List.map_append]
  have key:∀ (c d:Nat) (l m:List AObj),c < 4→d < 4→c≠d→∀ a,a∈(fam c 0 l).map (·.1)→∀ b,b∈(fam d 0 m).map (·.1)→a≠b:=fun c d l m hc hd hcd a ha b hb=>by
   obtain ⟨p,hp,rfl⟩:=List.mem_map.1 ha
   obtain ⟨q,hq,rfl⟩:=List.mem_map.1 hb
   obtain ⟨j,o,_,rfl⟩:=z4t.1 hp
   obtain ⟨k,o',_,rfl⟩:=z4t.1 hq
   show 4 * (0+j)+c+1000≠4 * (0+k)+d+1000
   omega
  refine List.nodup_append.2 ⟨z7r,List.nodup_append.2 ⟨z7r,z7r,key 1 2 _ _ (by decide) (by decide) (by decide)⟩,fun a ha b hb => ?_⟩
  rcases List.mem_append.1 hb with hb | hb
  ·exact key 0 1 _ _ (by decide) (by decide) (by decide) a ha b hb
  ·exact key 0 2 _ _ (by decide) (by decide) (by decide) a ha b hb
 ·obtain ⟨j,c,_,rfl | rfl | rfl⟩:=Yp.1 hp
  ·show 1000≤4 * j+1000; omega
  ·show 1000≤4 * j+1001; omega
  ·show 1000≤4 * j+1002; omega
abbrev fewO (D:Dc) (v:Dv):List (Nat×AObj):=[(1,oP D v),(2,oS D v),(3,oL v),(4,oA v),(5,oT v)]
noncomputable abbrev oneO (b m:Nat) (h:Value) (c:yj):List (Nat×AObj):=[(50,oC b m h c),(51,oM m c),(52,oR h c)]
def sg (k i:Nat):Nat:=if i < 50 then i else if i < 53 then 4 * k+950+i else i+4 * k+2000
theorem x5f (k i j:Nat) (h:sg k i=sg k j):i=j:=by
 unfold sg at h
 split at h <;> split at h <;> (try split at h) <;> (try split at h) <;> omega
def offk (k:Nat) (p:Nat×AObj):Bool := !(decide (4 * k+1000≤p.1) && decide (p.1≤4 * k+1002))
theorem y3i {k:Nat} {p:Nat×AObj}:p∈(famC fb fm fh cs).filter (offk k)↔∃ j c,j≠k∧cs[j]?=some c∧(p=(4 * j+1000,oC (fb j) (fm j) (fh j) c)∨p=(4 * j+1001,oM (fm j) c)∨p=(4 * j+1002,oR (fh j) c)):=by
 rw [List.mem_filter,Yp]
 constructor
 ·rintro ⟨⟨j,c,h1,h2⟩,h3⟩
  refine ⟨j,c,fun e => ?_,h1,h2⟩
  subst e
  unfold offk at h3
  rcases h2 with rfl | rfl | rfl <;> simp at h3 <;> omega
 ·rintro ⟨j,c,h0,h1,h2⟩
  refine ⟨⟨j,c,h1,h2⟩,?_⟩
  unfold offk
  rcases h2 with rfl | rfl | rfl <;> simp <;> omega
theorem y96 {k:Nat} {c:yj} (hk:cs[k]?=some c) (p:Nat×AObj):p∈renL (sg k) (fewO D v++oneO (fb k) (fm k) (fh k) c)++(famC fb fm fh cs).filter (offk k)↔p∈fewO D v++famC fb fm fh cs:=by
 have e:renL (sg k) (fewO D v++oneO (fb k) (fm k) (fh k) c)=fewO D v++[(4 * k+1000,oC (fb k) (fm k) (fh k) c),(4 * k+1001,oM (fm k) c),(4 * k+1002,oR (fh k) c)]:=by
  unfold renL sg
  simp
 rw [e,List.mem_append,List.mem_append,List.mem_append,y3i,Yp]
 constructor
 ·rintro ((h | h) | ⟨j,c',h0,h1,h2⟩)
  ·exact .inl h
  ·refine .inr ⟨k,c,hk,?_⟩
   simpa using h
  ·exact .inr ⟨j,c',h1,h2⟩
 ·rintro (h | ⟨j,c',h1,h2⟩)
  ·exact .inl (.inl h)
  ·by_cases hj:j=k
   ·subst hj
    rw [hk] at h1; cases h1
    exact .inl (.inr (by simpa using h2))
   ·exact .inr ⟨j,c',hj,h1,h2⟩
theorem y06 {k:Nat} {b m:Nat} {h:Value} {c:yj}:((renL (sg k) (fewO D v++oneO b m h c)++(famC fb fm fh cs).filter (offk k)).map (·.1)).Nodup:=by
 have e:renL (sg k) (fewO D v++oneO b m h c)=fewO D v++[(4 * k+1000,oC b m h c),(4 * k+1001,oM m c),(4 * k+1002,oR h c)]:=by
  unfold renL sg
  simp
 rw [e,List.map_append]
 refine List.nodup_append.2 ⟨?_,List.Nodup.sublist (List.Sublist.map _ List.filter_sublist) qw.nd,fun a ha b' hb => ?_⟩
 ·simp
 ·obtain ⟨q,hq,rfl⟩:=List.mem_map.1 hb
  have h1:=qw.big q (List.mem_filter.1 hq).1
  have h2:=(List.mem_filter.1 hq).2
  unfold offk at h2
  simp at ha h2
  omega
theorem x52 {k:Nat} {c':yj} {h':Value} (p:Nat×AObj):p∈(famC fb fm fh cs).filter (offk k)↔p∈(famC fb fm (fxV fh k h') (cs.set k c')).filter (offk k):=by
 rw [y3i,y3i]
 constructor
 ·rintro ⟨j,c,h0,h1,h2⟩
  exact ⟨j,c,h0,by rw [List.getElem?_set_ne (Ne.symm h0)]; exact h1,by rw [z4r h0]; exact h2⟩
 ·rintro ⟨j,c,h0,h1,h2⟩
  rw [List.getElem?_set_ne (Ne.symm h0)] at h1
  rw [z4r h0] at h2
  exact ⟨j,c,h0,h1,h2⟩
theorem x0e {ι:Type} {P:Program} {fn:Nat} {args:List V} {res:ι→V} {k:Nat} {c c':yj} {v':ι→Dv} {h':ι→Value} (hk:cs[k]?=some c)
  (hF:FnI P fn args (litO D v (fb k) (fm k) (fh k) c) res (fun y=>litO D (v' y) (fb k) (fm k) (h' y) c')) :
  FnI P fn args (fewO D v++famC fb fm fh cs) res (fun y=>fewO D (v' y)++famC fb fm (fxV fh k (h' y)) (cs.set k c')):=by
 have hkl:=(List.getElem?_eq_some_iff.1 hk).1
 have cl:∀ (D:Dc) (v:Dv) (b m:Nat) (h:Value) (c:yj) (p:Nat×AObj),p∈fewO D v++oneO b m h c→clO p.2=true:=fun D v b m h c=>List.all_eq_true.1 rfl
 have nd:∀ (D:Dc) (v:Dv) (b m:Nat) (h:Value) (c:yj),((fewO D v++oneO b m h c).map (·.1)).Nodup:=fun D v b m h c=>Zq rfl
 have h1:FnI P fn args (fewO D v++oneO (fb k) (fm k) (fh k) c) res (fun y=>fewO D (v' y)++oneO (fb k) (fm k) (h' y) c'):=hF
 have h2:=x0b (sg k) (x5f k) h1 (cl _ _ _ _ _ _) (fun y=>cl _ _ _ _ _ _) (nd _ _ _ _ _ _) (fun y=>nd _ _ _ _ _ _)
 have clr:∀ (D:Dc) (v:Dv) (b m:Nat) (h:Value) (c:yj) (p:Nat×AObj),p∈renL (sg k) (fewO D v++oneO b m h c)→clO p.2=true:=fun D v b m h c p hp=>by
  obtain ⟨q,hq,rfl⟩:=List.mem_map.1 hp
  exact cl _ _ _ _ _ _ q hq
 have h3:=x0f (R:=(famC fb fm fh cs).filter (offk k)) h2 (clr _ _ _ _ _ _) (fun y=>clr _ _ _ _ _ _) (fun p hp=>x0k (List.mem_filter.1 hp).1) y06 (fun y=>y06)
 have sm:∀ (D:Dc) (v:Dv),jh (fewO D v)=true:=fun _ _=>rfl
 refine x0c h3 (z53 y06 (Zb (sm _ _) qw) (y96 hk)) fun y=>z53 y06 (Zb (sm _ _) qw) fun p => ?_
 rw [← y96 (fh:=fxV fh k (h' y)) (cs:=cs.set k c') (k:=k) (c:=c') (by rw [List.getElem?_set_self hkl]),y05,List.mem_append,List.mem_append,x52 (c':=c') (h':=h' y)]
end
theorem x72 {D:Dc} {v:Dv} {fb fm:Nat→Nat} {fh:Nat→Value} {cs:List yj} (t:zt) {c:yj} (hb:D.bs[t.call_.toNat]?=some (fb t.call_.toNat)) (hk:at? cs t.call_=some c) (again2:List Int) (sd3:qj) (c2:yj) (H:Wd D.s D.ats v.again v.sd c t=some (again2,sd3,c2)) :
  FnI Tryz.prog 71 [vval (PB D.b1),vagg (yv t)] (fewO D v++famC fb fm fh cs) (fun _:Value×Value×Value=>zu []) (fun y=>fewO D ⟨again2,sd3,v.tries,y.2.1,y.1,v.ht⟩++famC fb fm (fxV fh t.call_.toNat y.2.2) (cs.set t.call_.toNat c2)):=by
 obtain ⟨h1,h2⟩:=yp hk
 exact x0e h2 (y9b D v _ _ _ c t (by unfold at?; rw [if_pos h1.1]; exact hb) again2 sd3 c2 H)
theorem x8a {D:Dc} {v:Dv} {fb fm:Nat→Nat} {fh:Nat→Value} {cs:List yj} (k v3:Int) {c:yj} (hb:D.bs[k.toNat]?=some (fb k.toNat)) (hk:at? cs k=some c) (r:List Int×List zt×qj×yj) (H:We D.s D.ph D.ats v.again v.tries v.sd c k v3=some r) :
  FnI Tryz.prog 74 [vval (PB D.b1),vint k,vint v3] (fewO D v++famC fb fm fh cs) (fun _:Value×Value×Value×Value=>zu []) (fun y=>fewO D ⟨r.1,r.2.2.1,r.2.1,y.2.1,y.1,y.2.2.1⟩++famC fb fm (fxV fh k.toNat y.2.2.2) (cs.set k.toNat r.2.2.2)):=by
 obtain ⟨h1,h2⟩:=yp hk
 exact x0e h2 (x8b D v _ _ _ c k v3 (by unfold at?; rw [if_pos h1.1]; exact hb) r H)
end Go.Proofs.YtgdijjmdfcgifaaGreat
