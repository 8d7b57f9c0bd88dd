/- slices.Insert at Revoked. -/
import Derived.Test.YtbndlmnjeofkdabGreatDoorIns
import Derived.Test.YtbndlmnjeofkdabGreatDoorTy
import Derived.WalkKit
import Derived.Lib.Walk
namespace Go.Proofs.YtbndlmnjeofkdabGreatDoor
open Go.RowKit Go.Lib
set_option linter.unusedVariables false
set_option linter.unusedSimpArgs false
set_option maxHeartbeats 4000000 in
set_option maxRecDepth 100000 in
theorem y3v (v:Value) (n:Nat) (cs vs:List Value) (w:World) (vb voff vc:Nat) (hn:n≤1000000) (hown:w.ownsRow 0 44 3 v n cs) (hvl:vs.length=3) (hvs:∀ j u,vs[j]?=some u→w.cell? ⟨vb,voff+j,none⟩=some u) (h1v:∀ u∈vs,u.oneCell'=true) :
  Calls Tryz.prog 31 #[v,.int .i64 (n:Int),.slice (some ⟨vb,voff,none⟩) 1 vc] w fun r w'=>∃ v',r = .returned v'∧w'.ownsRow 0 44 3 v' (n+1) (cs++vs)∧w.grownBy w' v.ownBlock∧∀ k,v'.ownBlock=some k→v.ownBlock=some k∨w.heap.size≤k:=by
 have u26:=run_underlying (P:=Tryz.prog) yx
 have u3:=run_underlying (P:=Tryz.prog) tyU3
 obtain ⟨i0,z,e1,e2,e3,e4,e5,e6,e7⟩:=(wn:Elem Tryz.prog 26 44 3 _)
 obtain ⟨v',w',r1,r2,r3,r4,r5⟩:=run_append_own_at (P:=Tryz.prog) w 0 26 26 44 i0 z 3 _ e1 e2 e3 e4 e5 e6 e7 v n cs hown ⟨vb,voff,none⟩ 1 vc vs (by omega) (fun j u hj=>by rw [Addr.add_lit]; exact hvs j u hj) h1v (by unfold maxLen; omega) (by omega) (Nat.zero_le _)
 have hrun:∀ ty,(Builtin.append_ #[26,26] ty #[v,.slice (some ⟨vb,voff,none⟩) 1 vc]).run Tryz.prog w = .ok v' w':=fun ty=>r1
 have hz1:¬ ((1:Int)=0):=by omega
 have hfin:w'.ownsRow 0 44 3 v' (n+1) (cs++vs)∧w.grownBy w' v.ownBlock∧∀ k,v'.ownBlock=some k→v.ownBlock=some k∨w.heap.size≤k:=⟨r2,r3,fun k hk=>by
  rcases r5 with h | h
  ·exact .inl (h ▸ hk)
  ·rw [h] at hk; cases hk; exact .inr (Nat.le_refl _)⟩
 have hsz:∀ w,(Go.sizeOf 44).run Tryz.prog w = .ok 3 w:=fun w=>by
  simp [Go.sizeOf,typeInfo,e2,e4]
 clear r1 r2 r3 r4 r5 e1 e2 e3 e4 e5 e6 e7
 rcases hown.2 with ⟨rfl,rfl⟩ | ⟨b,cap,cur,rfl,_,h3,h4,h5,h6,h7⟩
 ·go_enter Tryz.func31,Tryz.ntmps31
  go_wp2_with (at_builtin; refine Lib.wpList_append_run _ rfl _ _ _ _ rfl _ _ rfl rfl _ _ (hrun _) ?_)
  go_ret
  exact ⟨v',rfl,hfin⟩
 ·go_enter Tryz.func31,Tryz.ntmps31
  go_wp2_with (at_builtin; refine Lib.wpList_append_run _ rfl _ _ _ _ rfl _ _ rfl rfl _ _ (hrun _) ?_)
  all_goals (go_ret; exact ⟨v',rfl,hfin⟩)
theorem y3r (cur cs vs:List Value) (a m:Nat) (ha:a≤m) (hm:m+3≤cur.length) (hcs:cur.take m=cs) (hvs:vs.length=3) (c1:List Value) (hc1:c1=cur.take (a+3)++cs.drop a++cur.drop (a+3+(cs.drop a).length)) :
  c1.length=cur.length∧(c1.take a++vs++c1.drop (a+vs.length)).take (m+3)=cs.take a++vs++cs.drop a∧(c1.take a++vs++c1.drop (a+vs.length)).length=cur.length:=by
 have hcl:cs.length=m:=by rw [← hcs,List.length_take]; omega
 have hdl:(cs.drop a).length=m - a:=by rw [List.length_drop,hcl]
 have htl:(cur.take (a+3)).length=a+3:=by rw [List.length_take]; omega
 have h0:c1.length=cur.length:=by
  rw [hc1,List.length_append,List.length_append,htl,List.length_drop (l:=cur),hdl]; omega
 have h1:c1.take a=cs.take a:=by
  rw [hc1,List.append_assoc,List.take_append_of_le_length (by omega),List.take_take,← hcs,List.take_take]
  congr 1; omega
 have h2:c1.drop (a+vs.length)=cs.drop a++cur.drop (a+3+(cs.drop a).length):=by
  rw [hc1,List.append_assoc,hvs]
  exact List.drop_left' htl
 refine ⟨h0,?_,?_⟩
 ·rw [h1,h2,← List.append_assoc]
  exact List.take_left' (by rw [List.length_append,List.length_append,List.length_take,hvs,hdl,hcl]; omega)
 ·rw [List.length_append,List.length_append,List.length_take,List.length_drop,h0,hvs]; omega
set_option maxHeartbeats 4000000 in
set_option maxRecDepth 100000 in
theorem y3t (b n cap i:Nat) (cur:Array Value) (cs vs:List Value) (w:World) (vb voff vc:Nat) (hi:i < n) (hn:n≤1000000) (hroom:n+1≤cap) (hcm:cap≤maxLen) (hg:w.heap[b]?=some (.cells cur 44 (0,0))) (hcs:cur.size=cap * 3) (hcut:cur.toList.take (n * 3)=cs) (hvb:vb≠b) (hv:∃ arr t fz,w.heap[vb]?=some (.cells arr t fz)) (hvl:vs.length=3) (hvs:∀ j u,vs[j]?=some u→w.cell? ⟨vb,voff+j,none⟩=some u) (h1c:∀ u∈cs,u.oneCell'=true) (h1v:∀ u∈vs,u.oneCell'=true) :
  Calls Tryz.prog 31 #[.slice (some ⟨b,0,none⟩) n cap,.int .i64 (i:Int),.slice (some ⟨vb,voff,none⟩) 1 vc] w fun r w'=>r = .returned (.slice (some ⟨b,0,none⟩) (n+1) cap)∧∃ cur':Array Value,w'=w.drew.setRow b cur'∧cur'.size=cap * 3∧cur'.toList.take ((n+1) * 3)=cs.take (i * 3)++vs++cs.drop (i * 3):=by
 have u26:=run_underlying (P:=Tryz.prog) yx
 have u3:=run_underlying (P:=Tryz.prog) tyU3
 have hinfo:(Tryz.prog.info? 44).map (·.size)=some 3:=by
  obtain ⟨i0,z,e1,e2,e3,e4,e5,e6,e7⟩:=(wn:Elem Tryz.prog 26 44 3 _)
  rw [e2]; simp [e4]
 have hsz:∀ w,(Go.sizeOf 44).run Tryz.prog w = .ok 3 w:=fun w=>by
  obtain ⟨i0,z,e1,e2,e3,e4,e5,e6,e7⟩:=(wn:Elem Tryz.prog 26 44 3 _)
  simp [Go.sizeOf,typeInfo,e2,e4]
 have hcl:cs.length=n * 3:=by rw [← hcut,List.length_take,Array.length_toList,hcs]; omega
 have hz1:¬ ((1:Int)=0):=by omega
 have hz2:¬ ((i:Int)=(n:Int)):=by omega
 obtain ⟨arr,t,fz,hvh⟩:=hv
 have hcell0:∃ u,w.cell? ⟨vb,voff,none⟩=some u:=⟨vs[0]'(by omega),hvs 0 _ (List.getElem?_eq_getElem (by omega))⟩
 have hkA:arr.size≠0:=by
  obtain ⟨u,hu⟩:=hcell0
  rw [cell_of_row w vb _ _ _ _ hvh] at hu
  have:=(Array.getElem?_eq_some_iff.1 hu).1
  omega
 have hov:∀ lb cb,(callFunc 58 #[.slice (some ⟨vb,voff,none⟩) 1 vc,.slice (some ⟨b,(i+1) * 3,none⟩) lb cb]).run Tryz.prog w = .ok (.value (.bool false)) w:=fun lb cb=>by
  rw [run_callFunc_extern Tryz.func58 (by kernel_rfl) (by kernel_rfl) (by kernel_rfl) (e:=Extern.SlicesOverlaps.overlaps #[26,26] #[4]) (by kernel_rfl),
   y0n w 26 4 44 yx 3 hsz ⟨vb,voff,none⟩ ⟨b,(i+1) * 3,none⟩ 1 vc lb cb hvb t 44 arr.size cur.size (by simp [World.shape?,hvh]) (by simp [World.shape?,hg]) hkA (by simp [World.frozen?,hg]) (by simp [World.frozen?,hg])]
  rfl
 have mixed:Tryz.prog.follows Departure.mixedOrders=true:=by kernel_rfl
 have hw1:IntKind.i64.wrap ((i:Int)+1)=(i:Int)+1:=by rw [IntKind.wrap_i64]; omega
 have hb1:(0:Int)≤(i:Int)+1:=by omega
 have hin:i≤n:=by omega
 have htn:((i:Int)+1).toNat=i+1:=by omega
 have hb2:¬ (cap=i+1):=by omega
 have hb3:(i:Int)≤(n:Int)+1:=by omega
 have hb4:¬ (cap=i):=by omega
 have hc63:cap≤9223372036854775807:=by unfold maxLen at hcm; omega
 obtain ⟨c1,hc1⟩:∃ c1,c1=cur.toList.take (i * 3+3)++cs.drop (i * 3)++cur.toList.drop (i * 3+3+(cs.drop (i * 3)).length):=⟨_,rfl⟩
 obtain ⟨L1,L2,L3⟩:=y3r cur.toList cs vs (i * 3) (n * 3) (by omega) (by rw [Array.length_toList,hcs]; omega) hcut hvl c1 hc1
 have hcp1:∀ ty dc sc,(Builtin.copy_ #[26,26] ty #[.slice (some ⟨b,(i+1) * 3,none⟩) (n - i) dc,.slice (some ⟨b,i * 3,none⟩) (n+1 - i) sc]).run Tryz.prog w.drew = .ok (goInt ((n - i:Nat):Int)) (w.drew.setRow b c1.toArray):=fun ty dc sc=>by
  have h:=z0l w.drew 26 26 ty 44 3 b ((i+1) * 3) (n - i) dc ⟨b,i * 3,none⟩ (n+1 - i) sc cur 44 (cs.drop (i * 3)) yx hinfo hg (by rw [List.length_drop,hcl]; simp only [Nat.min_def]; split <;> omega)
   (fun j v hj=>by
    rw [Addr.add_lit]
    have hj':=hj
    rw [List.getElem?_drop,← hcut] at hj'
    have hlt:=(List.getElem?_eq_some_iff.1 hj').1
    rw [List.length_take] at hlt
    rw [List.getElem?_take_of_lt (by omega)] at hj'
    show w.cell? ⟨b,i * 3+j,none⟩=some v
    rw [cell_of_row w b _ _ _ _ hg]
    simpa using hj')
   (by rw [List.length_drop,hcl,hcs]; omega) (fun v hv=>h1c v (List.mem_of_mem_drop hv))
  rw [h]
  have e1:Nat.min (n+1 - i) (n - i)=n - i:=by simp only [Nat.min_def]; split <;> omega
  have e2:(i+1) * 3=i * 3+3:=by omega
  rw [e1,e2,← hc1]
 obtain ⟨W1,hW1⟩:∃ W1,W1=w.drew.setRow b c1.toArray:=⟨_,rfl⟩
 rw [← hW1] at hcp1
 have hg1:W1.heap[b]?=some (.cells c1.toArray 44 (0,0)):=by rw [hW1]; exact setRow_heap w.drew b cur _ 44 _ hg
 obtain ⟨c2,hc2⟩:∃ c2,c2=(c1.take (i * 3)++vs++c1.drop (i * 3+vs.length)).toArray:=⟨_,rfl⟩
 have hcp2:∀ ty dc,(Builtin.copy_ #[26,26] ty #[.slice (some ⟨b,i * 3,none⟩) (n+1 - i) dc,.slice (some ⟨vb,voff,none⟩) 1 vc]).run Tryz.prog W1 = .ok (goInt 1) (W1.setRow b c2):=fun ty dc=>by
  have h:=z0l W1 26 26 ty 44 3 b (i * 3) (n+1 - i) dc ⟨vb,voff,none⟩ 1 vc c1.toArray 44 vs yx hinfo hg1 (by rw [hvl]; simp only [Nat.min_def]; split <;> omega)
   (fun j v hj=>by
    rw [Addr.add_lit,hW1]
    have h3:(w.drew.setRow b c1.toArray).heap[vb]?=w.heap[vb]?:=setRow_other w.drew b vb _ (fun e=>hvb e)
    rw [World.cell?_of_block (w:=w) (a:=⟨vb,voff+j,none⟩) h3]
    exact hvs j v hj)
   (by rw [hvl]; simp only [List.size_toArray]; rw [L1,Array.length_toList,hcs]; omega) h1v
  rw [h]
  have e1:Nat.min 1 (n+1 - i)=1:=by simp only [Nat.min_def]; split <;> omega
  rw [e1,hc2,List.toList_toArray]
  rfl
 have hfin:∃ cur':Array Value,W1.setRow b c2=w.drew.setRow b cur'∧cur'.size=cap * 3∧cur'.toList.take ((n+1) * 3)=cs.take (i * 3)++vs++cs.drop (i * 3):=by
  refine ⟨c2,by rw [hW1,setRow_setRow],?_,?_⟩
  ·rw [hc2,List.size_toArray,L3,Array.length_toList,hcs]
  ·rw [hc2,← L2]
   congr 1
   omega
 clear hc1 hc2 hW1 hg1 L1 L2 L3 hcl hcut hcs hg hvh hkA hcell0 hinfo
 go_enter Tryz.func31,Tryz.ntmps31
 go_wp2_with (simp only [hov])
 go_region_law_o (refine step_copy_runI rfl _ _ 26 26 rfl _ _ (by simp [Act.eval,Act.put]) (by simp [Act.eval,Act.put]) (hcp1 _ _ _) ?_)
 go_wp2_with (at_builtin; refine wpList_copy_runI _ rfl _ _ 26 26 rfl _ _ rfl rfl (hcp2 _ _) ?_)
 go_ret
 exact ⟨rfl,hfin⟩
theorem y3q (row0 cs vs:List Value) (a m:Nat) (ha:a≤m) (hcl:cs.length=m) (hm:m+3≤row0.length) (h0:row0.take a=cs.take a) (hvs:vs.length=3) (r1:List Value) (hr1:r1=row0.take a++vs++row0.drop (a+vs.length)) :
  r1.length=row0.length∧(r1.take (a+3)++cs.drop a++r1.drop (a+3+(cs.drop a).length)).take (m+3)=cs.take a++vs++cs.drop a∧(r1.take (a+3)++cs.drop a++r1.drop (a+3+(cs.drop a).length)).length=row0.length:=by
 have hdl:(cs.drop a).length=m - a:=by rw [List.length_drop,hcl]
 have htl:(row0.take a).length=a:=by rw [List.length_take]; omega
 have hl:r1.length=row0.length:=by
  rw [hr1,List.length_append,List.length_append,htl,List.length_drop,hvs]; omega
 have h1:r1.take (a+3)=cs.take a++vs:=by
  rw [hr1,h0]
  exact List.take_left' (by rw [List.length_append,List.length_take,hcl,hvs]; omega)
 refine ⟨hl,?_,?_⟩
 ·rw [h1]
  exact List.take_left' (by rw [List.length_append,List.length_append,List.length_take,hvs,hdl,hcl]; omega)
 ·rw [List.length_append,List.length_append,List.length_take,List.length_drop (l:=r1),hl,hdl]; omega
set_option maxHeartbeats 4000000 in
set_option maxRecDepth 100000 in
theorem y3u (b n cap i:Nat) (cur:Array Value) (cs vs:List Value) (w:World) (vb voff vc:Nat) (hi:i < n) (hn:n≤1000000) (hnc:n≤cap) (hroom:cap < n+1) (hg:w.heap[b]?=some (.cells cur 44 (0,0))) (hcs:cur.size=cap * 3) (hcut:cur.toList.take (n * 3)=cs) (hvb:vb≠b) (hvl:vs.length=3) (hvs:∀ j u,vs[j]?=some u→w.cell? ⟨vb,voff+j,none⟩=some u) (h1c:∀ u∈cs,u.oneCell'=true) (h1v:∀ u∈vs,u.oneCell'=true) :
  Calls Tryz.prog 31 #[.slice (some ⟨b,0,none⟩) n cap,.int .i64 (i:Int),.slice (some ⟨vb,voff,none⟩) 1 vc] w fun r w'=>∃ G,r = .returned (.slice (some ⟨w.heap.size,0,none⟩) (n+1) G)∧n+1≤G∧G≤maxLen∧∃ (cur':Array Value) (o:Obj),w'=(((w.drew.alloc o).drew).setRow w.heap.size cur')∧w'.heap[w.heap.size]?=some (.cells cur' 44 (0,0))∧cur'.size=G * 3∧cur'.toList.take ((n+1) * 3)=cs.take (i * 3)++vs++cs.drop (i * 3):=by
 have u26:=run_underlying (P:=Tryz.prog) yx
 have u3:=run_underlying (P:=Tryz.prog) tyU3
 obtain ⟨i0,z,e1,e2,e3,e4,e5,e6,e7⟩:=(wn:Elem Tryz.prog 26 44 3 _)
 have hinfo:(Tryz.prog.info? 44).map (·.size)=some 3:=by rw [e2]; simp [e4]
 have hsz:∀ w,(Go.sizeOf 44).run Tryz.prog w = .ok 3 w:=fun w=>by simp [Go.sizeOf,typeInfo,e2,e4]
 have hcl:cs.length=n * 3:=by rw [← hcut,List.length_take,Array.length_toList,hcs]; omega
 have hz1:¬ ((1:Int)=0):=by omega
 have hz2:¬ ((i:Int)=(n:Int)):=by omega
 have hz3:(cap:Int) < (n:Int)+1:=by omega
 have mixed:Tryz.prog.follows Departure.mixedOrders=true:=by kernel_rfl
 have hbw:b < w.heap.size:=ux hg
 have hcells:∀ j v,cs[j]?=some v→w.cell? ⟨b,0+j,none⟩=some v:=fun j v hj=>by
  have hlt:=(List.getElem?_eq_some_iff.1 hj).1
  rw [← hcut,List.getElem?_take_of_lt (by omega)] at hj
  rw [cell_of_row w b _ _ _ _ hg,Nat.zero_add]
  simpa using hj
 have hvw:vb < w.heap.size:=block_lt_of_cell (hvs 0 _ (List.getElem?_eq_getElem (by omega)))
 have hkk:(n:Int)+1 - (i:Int)=((n+1 - i:Nat):Int):=by omega
 have hik:i+(n+1 - i)=n+1:=by omega
 have hold:(Builtin.firstCells i0.size i (.slice (some ⟨b,0,none⟩) i cap)).run Tryz.prog w.drew = .ok (cs.take (i * 3)).toArray w.drew:=by
  rw [e4]
  exact run_firstCells_some w.drew 3 i ⟨b,0,none⟩ i cap (cs.take (i * 3)) (by rw [List.length_take]; omega) (fun j v hj=>by
   rw [Addr.add_lit]
   rw [List.getElem?_take] at hj
   split at hj
   ·exact hcells j v hj
   ·cases hj)
 have hrz:∀ ty,(Builtin.append_ #[26,3] ty #[.slice (some ⟨b,0,none⟩) i cap,.int .i64 ((n:Int)+1 - (i:Int))]).run Tryz.prog w = .ok (.slice (some ⟨w.heap.size,0,none⟩) (n+1) (grownCap w (n+1) cap 44)) (w.drew.alloc (.cells ((cs.take (i * 3)).toArray++Builtin.zeroCells z.cells (n+1 - i)++Builtin.zeroCells z.cells (grownCap w (n+1) cap 44 - (n+1))) 44)):=fun ty=>by
  have h:=Lib.run_append_grow_zeros w 26 3 ty 44 i0 z .i64 .i64 yx tyU3 e2 e3 (some ⟨b,0,none⟩) i cap (cs.take (i * 3)) hold (n+1 - i) (by omega) (by omega) (by omega) (by omega) (by rw [e5]; omega) (by rw [e5,hik]; exact growslice_fits (by omega) (by omega))
  rw [hik] at h
  rw [hkk]
  exact h
 have hGn:n+1≤grownCap w (n+1) cap 44:=grownCap_ge w _ _ _
 have hGm:grownCap w (n+1) cap 44≤maxLen:=grownCap_le_maxLen w (n+1) cap 44 (by unfold maxLen; omega)
 obtain ⟨G,hG⟩:∃ G,G=grownCap w (n+1) cap 44:=⟨_,rfl⟩
 obtain ⟨ROW,hROW⟩:∃ ROW:Array Value,ROW=(cs.take (i * 3)).toArray++Builtin.zeroCells z.cells (n+1 - i)++Builtin.zeroCells z.cells (G - (n+1)):=⟨_,rfl⟩
 rw [← hG] at hrz hGn hGm
 rw [← hROW] at hrz
 have hRs:ROW.size=G * 3:=by
  rw [hROW]
  simp only [Array.size_append,List.size_toArray,size_zeroCells,e6,List.length_take,hcl]
  have:min (i * 3) (n * 3)=i * 3:=by omega
  rw [this]; omega
 have hRt:ROW.toList.take (i * 3)=cs.take (i * 3):=by
  rw [hROW]
  simp only [Array.toList_append,List.append_assoc]
  exact List.take_left' (by rw [List.length_take,hcl]; omega)
 obtain ⟨W1,hW1⟩:∃ W1,W1=w.drew.alloc (.cells ROW 44):=⟨_,rfl⟩
 rw [← hW1] at hrz
 have hgN:W1.heap[w.heap.size]?=some (.cells ROW 44 (0,0)):=by rw [hW1]; exact heap_alloc_new w.drew _
 have hold1:∀ k,k < w.heap.size→W1.heap[k]?=w.heap[k]?:=fun k hk=>by rw [hW1]; exact heap_alloc_old w.drew _ hk
 obtain ⟨r1,hr1⟩:∃ r1,r1=ROW.toList.take (i * 3)++vs++ROW.toList.drop (i * 3+vs.length):=⟨_,rfl⟩
 obtain ⟨L1,L2,L3⟩:=y3q ROW.toList cs vs (i * 3) (n * 3) (by omega) hcl (by rw [Array.length_toList,hRs]; omega) hRt hvl r1 hr1
 have hcpA:∀ ty dc,(Builtin.copy_ #[26,26] ty #[.slice (some ⟨w.heap.size,i * 3,none⟩) (n+1 - i) dc,.slice (some ⟨vb,voff,none⟩) 1 vc]).run Tryz.prog W1 = .ok (goInt 1) (W1.setRow w.heap.size r1.toArray):=fun ty dc=>by
  have h:=z0l W1 26 26 ty 44 3 w.heap.size (i * 3) (n+1 - i) dc ⟨vb,voff,none⟩ 1 vc ROW 44 vs yx hinfo hgN (by rw [hvl]; simp only [Nat.min_def]; split <;> omega)
   (fun j v hj=>by
    rw [Addr.add_lit,World.cell?_of_block (w:=w) (a:=⟨vb,voff+j,none⟩) (hold1 vb hvw)]
    exact hvs j v hj)
   (by rw [hvl,hRs]; omega) h1v
  rw [h]
  have e1:Nat.min 1 (n+1 - i)=1:=by simp only [Nat.min_def]; split <;> omega
  rw [e1,← hr1]
  rfl
 obtain ⟨W2,hW2⟩:∃ W2,W2=W1.setRow w.heap.size r1.toArray:=⟨_,rfl⟩
 rw [← hW2] at hcpA
 have hg2:W2.heap[w.heap.size]?=some (.cells r1.toArray 44 (0,0)):=by rw [hW2]; exact setRow_heap W1 w.heap.size ROW _ 44 _ hgN
 have hold2:∀ k,k < w.heap.size→W2.heap[k]?=w.heap[k]?:=fun k hk=>by
  rw [hW2,setRow_other W1 w.heap.size k _ (by omega)]
  exact hold1 k hk
 obtain ⟨r2,hr2⟩:∃ r2,r2=(r1.take (i * 3+3)++cs.drop (i * 3)++r1.drop (i * 3+3+(cs.drop (i * 3)).length)).toArray:=⟨_,rfl⟩
 have hcpB:∀ ty dc sc,(Builtin.copy_ #[26,26] ty #[.slice (some ⟨w.heap.size,(i+1) * 3,none⟩) (n - i) dc,.slice (some ⟨b,i * 3,none⟩) (n - i) sc]).run Tryz.prog W2.drew = .ok (goInt ((n - i:Nat):Int)) (W2.drew.setRow w.heap.size r2):=fun ty dc sc=>by
  have h:=z0l W2.drew 26 26 ty 44 3 w.heap.size ((i+1) * 3) (n - i) dc ⟨b,i * 3,none⟩ (n - i) sc r1.toArray 44 (cs.drop (i * 3)) yx hinfo hg2 (by rw [List.length_drop,hcl]; simp only [Nat.min_def]; split <;> omega)
   (fun j v hj=>by
    rw [Addr.add_lit]
    have h3:W2.drew.cell? ⟨b,i * 3+j,none⟩=w.cell? ⟨b,i * 3+j,none⟩:=World.cell?_of_block (w:=w) (w':=W2.drew) (a:=⟨b,i * 3+j,none⟩) (hold2 b hbw)
    rw [h3]
    rw [List.getElem?_drop] at hj
    have:=hcells _ v hj
    rw [Nat.zero_add] at this
    exact this)
   (by rw [List.length_drop,hcl]; simp only [List.size_toArray]; rw [L1,Array.length_toList,hRs]; omega) (fun v hv=>h1c v (List.mem_of_mem_drop hv))
  rw [h]
  have e1:Nat.min (n - i) (n - i)=n - i:=by simp only [Nat.min_def]; split <;> omega
  have e2:(i+1) * 3=i * 3+3:=by omega
  rw [e1,e2,hr2,List.toList_toArray]
 have hG63:G≤9223372036854775807:=by unfold maxLen at hGm; omega
 have hGi:¬ (G=i):=by omega
 have hGim:¬ (G=i+1):=by omega
 have hci:¬ (cap=i):=by omega
 have hw1:IntKind.i64.wrap ((i:Int)+1)=(i:Int)+1:=by rw [IntKind.wrap_i64]; omega
 have hb1:(0:Int)≤(i:Int)+1:=by omega
 have hin:i≤n:=by omega
 have hic:i≤cap:=by omega
 have htn:((i:Int)+1).toNat=i+1:=by omega
 have hb3:(i:Int)≤(n:Int):=by omega
 have hfin:∃ (cur':Array Value) (o:Obj),W2.drew.setRow w.heap.size r2=(((w.drew.alloc o).drew).setRow w.heap.size cur')∧(W2.drew.setRow w.heap.size r2).heap[w.heap.size]?=some (.cells cur' 44 (0,0))∧cur'.size=G * 3∧cur'.toList.take ((n+1) * 3)=cs.take (i * 3)++vs++cs.drop (i * 3):=by
  refine ⟨r2,.cells ROW 44,?_,?_,?_,?_⟩
  ·have e:W2.drew=(W1.drew).setRow w.heap.size r1.toArray:=by rw [hW2]; rfl
   rw [e,setRow_setRow,hW1]
  ·exact setRow_heap W2.drew w.heap.size r1.toArray _ 44 _ hg2
  ·rw [hr2,List.size_toArray,L3,Array.length_toList,hRs]
  ·rw [hr2,← L2]
   congr 1
   omega
 clear hkk hik hold hROW hG hr1 hr2 hW1 hW2 hg2 hgN hold1 hold2 L1 L2 L3 hRs hRt hcl hcut hcs hg hcells hinfo e1 e2 e3 e4 e5 e6 e7
 go_enter Tryz.func31,Tryz.ntmps31
 go_wp2_with (first
  | (at_builtin; refine Lib.wpList_append_run _ rfl _ _ _ _ rfl _ _ rfl rfl _ _ (hrz _) ?_)
  | (at_builtin; refine wpList_copy_runI _ rfl _ _ 26 26 rfl _ _ rfl rfl (hcpA _ _) ?_))
 go_region_law_o (refine step_copy_runI rfl _ _ 26 26 rfl _ _ (by simp [Act.eval,Act.put]) (by simp [Act.eval,Act.put]) (hcpB _ _ _) ?_)
 go_wp2
 go_ret
 exact ⟨G,rfl,hGn,hGm,hfin⟩
theorem y3w (v:Value) (n i:Nat) (cs vs:List Value) (w:World) (vb voff vc:Nat) (hi:i≤n) (hn:n≤1000000) (hown:w.ownsRow 0 44 3 v n cs) (hne:v.ownBlock≠some vb) (hv:∃ arr t fz,w.heap[vb]?=some (.cells arr t fz)) (hvl:vs.length=3) (hvs:∀ j u,vs[j]?=some u→w.cell? ⟨vb,voff+j,none⟩=some u) (h1c:∀ u∈cs,u.oneCell'=true) (h1v:∀ u∈vs,u.oneCell'=true) :
  Calls Tryz.prog 31 #[v,.int .i64 (i:Int),.slice (some ⟨vb,voff,none⟩) 1 vc] w fun r w'=>∃ v',r = .returned v'∧w'.ownsRow 0 44 3 v' (n+1) (cs.take (i * 3)++vs++cs.drop (i * 3))∧w.grownBy w' v.ownBlock∧∀ k,v'.ownBlock=some k→v.ownBlock=some k∨w.heap.size≤k:=by
 by_cases hin:i=n
 ·subst hin
  have e1:cs.take (i * 3)=cs:=List.take_of_length_le (by rw [hown.1]; omega)
  have e2:cs.drop (i * 3)=[]:=List.drop_eq_nil_of_le (by rw [hown.1]; omega)
  rw [e1,e2,List.append_nil]
  exact y3v v i cs vs w vb voff vc hn hown hvl hvs h1v
 ·have hlen:(cs.take (i * 3)++vs++cs.drop (i * 3)).length=(n+1) * 3:=by
   rw [List.length_append,List.length_append,List.length_take,List.length_drop,hvl,hown.1]; omega
  rcases hown.2 with ⟨rfl,rfl⟩ | ⟨b,cap,cur,rfl,_,h3,h4,h5,h6,h7⟩
  ·omega
  ·have hvb:vb≠b:=fun e=>hne (by rw [e]; rfl)
   by_cases hroom:n+1≤cap
   ·refine (y3t b n cap i cur cs vs w vb voff vc (by omega) hn hroom h5 h3 h6 h7 hvb hv hvl hvs h1c h1v).mono ?_
    rintro r w' ⟨rfl,cur',rfl,q1,q2⟩
    refine ⟨_,rfl,⟨hlen,.inr ⟨b,cap,cur',rfl,Nat.zero_le _,setRow_heap w.drew b cur _ 44 _ h3,hroom,h5,q1,q2⟩⟩,⟨rfl,rfl,rfl,by simp,fun k _ hk=>setRow_other w.drew b k _ (fun e=>hk (by simp [Value.ownBlock,e]))⟩,fun k hk => .inl hk⟩
   ·refine (y3u b n cap i cur cs vs w vb voff vc (by omega) hn h4 (by omega) h3 h6 h7 hvb hvl hvs h1c h1v).mono ?_
    rintro r w' ⟨G,rfl,g1,g2,cur',o,rfl,q0,q1,q2⟩
    refine ⟨_,rfl,⟨hlen,.inr ⟨w.heap.size,G,cur',rfl,Nat.zero_le _,q0,g1,g2,q1,q2⟩⟩,⟨rfl,rfl,rfl,by simp,fun k hk _ => ?_⟩,fun k hk => ?_⟩
    ·rw [setRow_other _ w.heap.size k _ (by omega)]
     exact heap_alloc_old w.drew o hk
    ·cases hk
     exact .inr (Nat.le_refl _)
end Go.Proofs.YtbndlmnjeofkdabGreatDoor
