/- A day of calls, the document's way: slices.Delete of one try that is under way. -/
import Derived.Test.YtgdijjmdfcgifaaGreatXds
import Derived.Deep.LoopGhost
import Derived.Deep.RegionLaw
import Derived.WalkKit
import Derived.Lib.Walk
import Derived.Lib.SlicesDelete
namespace Go.Proofs.YtgdijjmdfcgifaaGreat
open Go.RowKit Go.Lib Go.ChangeMaps Go.MapKept
set_option linter.unusedVariables false
set_option linter.unusedSimpArgs false
set_option maxHeartbeats 4000000 in
set_option maxRecDepth 100000 in
theorem delW (b n cap i:Nat) (cur:Array Value) (w:World) (hi:i < n) (hn:n≤1000000) (hnc:n≤cap) (hcm:cap≤maxLen) (hg:w.heap[b]?=some (.cells cur 139 (0,0))) (hcs:cur.size=cap * 6) (h1c:∀ u∈cur.toList.take (n * 6),u.oneCell'=true) :
  Calls Tryz.prog 79 #[.slice (some ⟨b,0,none⟩) n cap,.int .i64 (i:Int),.int .i64 ((i:Int)+1)] w fun r w'=>r = .returned (.slice (some ⟨b,0,none⟩) (n - 1) cap)∧Kp [b] w w'∧∃ cur':Array Value,w'.heap[b]?=some (.cells cur' 139 (0,0))∧cur'.size=cap * 6∧cur'.toList.take ((n - 1) * 6)=cur.toList.take (i * 6)++(cur.toList.take (n * 6)).drop ((i+1) * 6):=by
 have u1:=run_underlying (P:=Tryz.prog) z8a
 have u3:=run_underlying (P:=Tryz.prog) tyU3
 obtain ⟨i0,z,e1,e2,e3,e4,e5,e6,e7⟩:=(y11:Elem Tryz.prog 102 139 6 _)
 have hsz:∀ w,(Go.sizeOf 139).run Tryz.prog w = .ok 6 w:=fun w=>by simp [Go.sizeOf,typeInfo,e2,e4]
 have mixed:Tryz.prog.follows Departure.mixedOrders=true:=by kernel_rfl
 have hcl0:cur.toList.length=cap * 6:=by rw [Array.length_toList,hcs]
 obtain ⟨news,hnews⟩:∃ news,news=(cur.toList.take (n * 6)).drop ((i+1) * 6):=⟨_,rfl⟩
 have hlen:news.length=(n - (i+1)) * 6:=by rw [hnews,List.length_drop,List.length_take,hcl0]; omega
 have hget:∀ t u,news[t]?=some u→w.drew.cell? ⟨b,(i+1) * 6+t,none⟩=some u:=fun t u h=>by
  have h0:=(List.getElem?_eq_some_iff.1 h).1
  rw [hlen] at h0
  rw [hnews,List.getElem?_drop,List.getElem?_take_of_lt (by omega)] at h
  show w.cell? _=_
  rw [cell_of_row w b _ _ _ _ hg]
  simpa using h
 obtain ⟨A,hA,hsrc⟩:∃ A:Addr,(if cap=i+1 then some (⟨b,0,none⟩:Addr) else some ⟨b,(i+1) * 6,none⟩)=some A∧Hid (∀ t u,news[t]?=some u→w.drew.cell? (A.add t)=some u):=by
  by_cases h:cap=i+1
  ·refine ⟨⟨b,0,none⟩,by simp [h],fun t u hu => ?_⟩
   have h0:news.length=0:=by rw [hlen]; omega
   rw [List.length_eq_zero_iff.1 h0] at hu
   simp at hu
  ·refine ⟨⟨b,(i+1) * 6,none⟩,by simp [h],fun t u hu => ?_⟩
   rw [Addr.add_lit]
   exact hget t u hu
 have s1:Hid (news.length=(n - (i+1)) * 6):=hlen
 have s2:Hid (∀ u∈news,u.oneCell'=true):=fun u hu=>h1c u (List.mem_of_mem_drop (by rw [← hnews]; exact hu))
 have s3:Hid (∀ t,t < news.length→(w.drew.cell? ⟨b,0+i * 6+t,none⟩).isSome=true∧w.drew.frozen? ⟨b,0+i * 6+t,none⟩=false):=fun t ht=>by
  rw [hlen] at ht
  refine ⟨?_,by simp [World.frozen?,show w.drew.heap[b]?=_ from hg]⟩
  show (w.cell? _).isSome=true
  rw [cell_of_row w b _ _ _ _ hg,Array.getElem?_eq_getElem (by omega)]; rfl
 obtain ⟨W1,hW1⟩:∃ W1,W1=w.drew.setCells b (0+i * 6) news:=⟨_,rfl⟩
 have hg1:=y4t cur.toList news w.drew (0+i * 6) (cur.toList.take (0+i * 6)) (by rw [List.length_take]; omega) (by rw [List.take_append_drop]; exact hg) (by omega)
 rw [← hW1] at hg1
 have hk1:Kp [b] w W1:=by rw [hW1]; exact y3w b news w.drew _ (Kp.refl [b] w).drew
 obtain ⟨c1,hc1⟩:∃ c1,c1=cur.toList.take (0+i * 6)++news++cur.toList.drop (0+i * 6+news.length):=⟨_,rfl⟩
 rw [← hc1] at hg1
 have hcl1:c1.length=cap * 6:=by rw [hc1,List.length_append,List.length_append,List.length_take,List.length_drop,hlen]; omega
 obtain ⟨z',hz1',hz2'⟩:∃ z,(∀ w,(zeroValue 139).run Tryz.prog w = .ok z w)∧z.cells.toList=[.int .i64 0,.int .i64 0,.string ⟨#[]⟩,.int .i64 0,.int .i64 0,.int .i64 0]:=by
  have hz:=z49
  unfold tyZ at hz
  rw [e2,Option.bind_some,e3] at hz
  exact ⟨z,fun w=>by simp [zeroValue,typeInfo,e2,e3],by simpa using hz⟩
 have hz3:z'.cells.toList.all (·.oneCell')=true:=by rw [hz2']; rfl
 have e6':z'.cells.size=6:=by rw [← Array.length_toList,hz2']; rfl
 clear e3 e6 e7
 obtain ⟨ZL,hZL⟩:∃ ZL,ZL=(Builtin.zeroCells z'.cells (n - (i+(n - (i+1))))).toList:=⟨_,rfl⟩
 have hzl:ZL.length=(n - (i+(n - (i+1)))) * 6:=by rw [hZL,y5b,e6']
 have hzo:∀ v,v∈ZL→v.oneCell'=true:=fun v hv=>by
  rw [hZL] at hv
  obtain ⟨j,hj,rfl⟩:=List.getElem_of_mem hv
  have hj':j < (n - (i+(n - (i+1)))) * 6:=by rw [← hzl,hZL]; exact hj
  have h5:=y1p z'.cells (n - (i+(n - (i+1)))) (j / 6) (j % 6) (by omega) (by omega)
  rw [e6',show j / 6 * 6+j % 6=j by omega,List.getElem?_eq_getElem hj] at h5
  exact (List.all_eq_true.1 hz3) _ (Array.mem_toList_iff.2 (Array.mem_of_getElem? h5.symm))
 have hcl:∀ ty,(Builtin.clear_ #[102] ty #[.slice (some ⟨b,(i+(n - (i+1))) * 6,none⟩) (n - (i+(n - (i+1)))) (cap - (i+(n - (i+1))))]).run Tryz.prog W1 = .ok (.tuple #[]) (W1.setCells b ((i+(n - (i+1))) * 6) ZL):=fun ty=>by
  rw [hZL]
  exact y7h (P:=Tryz.prog) (w:=W1) z8a (hz1' _) hz3 b _ _ _ (by omega) (fun j hj=>by
   rw [← hZL,hzl] at hj
   rw [cell_of_row W1 b _ _ _ _ hg1,List.getElem?_toArray,List.getElem?_eq_getElem (by omega)]; rfl) (fun j hj=>by simp [World.frozen?,hg1]) (by rw [← hZL]; exact hzo)
 have hfin:Hid (Kp [b] w (W1.setCells b ((i+(n - (i+1))) * 6) ZL)∧∃ cur':Array Value,(W1.setCells b ((i+(n - (i+1))) * 6) ZL).heap[b]?=some (.cells cur' 139 (0,0))∧cur'.size=cap * 6∧cur'.toList.take ((n - 1) * 6)=cur.toList.take (i * 6)++(cur.toList.take (n * 6)).drop ((i+1) * 6)):=by
  have h2:=y4t c1 ZL W1 ((i+(n - (i+1))) * 6) (c1.take ((i+(n - (i+1))) * 6)) (by rw [List.length_take]; omega) (by rw [List.take_append_drop]; exact hg1) (by omega)
  refine ⟨y3w b _ W1 _ hk1,_,h2,?_,?_⟩
  ·rw [List.size_toArray,List.length_append,List.length_append,List.length_take,List.length_drop,hzl]; omega
  ·rw [List.toList_toArray,List.append_assoc,List.take_left' (by rw [List.length_take]; omega),← hnews,hc1,show 0+i * 6=i * 6 by omega]
   exact List.take_left' (by rw [List.length_append,List.length_take,hlen]; omega)
 have hW:Hid (W1=w.drew.setCells b (0+i * 6) news):=hW1
 have hic:i≤cap:=by omega
 have hjc:i+1≤cap:=by omega
 have hz2:¬ ((i:Int)=(i:Int)+1):=by omega
 have htn:((i:Int)+1).toNat=i+1:=by omega
 have hb1:(0:Int)≤(i:Int)+1:=by omega
 have hb2:(i:Int)≤(i:Int)+1:=by omega
 have hb3:(i:Int)+1≤(n:Int):=by omega
 have hb4:(i:Int)+1≤(cap:Int):=by omega
 clear hW1 hg1 hk1 hc1 hcl1 hzo hzl hZL hz1' hz2' hz3 e6' hget hnews hlen hcl0 hg hcs h1c
 go_enter Tryz.func79,Tryz.ntmps79
 go_wp2_with fail
 go_region_law_o (refine step_append_room rfl (.tmp 22) (.tmp 25) 102 rfl 139 i0 6 e1 e2 e4 b 0 i cap (by simp [Act.eval,Act.put]) A (n - (i+1)) (cap - (i+1)) news (by simp [Act.eval,Act.put]) s1.out hsrc.out s2.out (by omega) s3.out ?_; rw [← hW.out])
 go_wp2
 go_ret
 exact ⟨by rw [show n - 1=i+(n - (i+1)) by omega]; rfl,hfin.out⟩
theorem y4f {α:Type} {es:List α} {i k:Nat}:(es.eraseIdx i)[k]?=if k < i then es[k]? else es[k+1]?:=List.getElem?_eraseIdx
theorem x79 (h:Value) (es:List (List V)) (i:Nat) (hi:i < es.length) (hn:es.length≤1000000) :
  FnI (ι:=Value) Tryz.prog 79 [vval h,vint (i:Int),vint ((i:Int)+1)] [(4,.rowA h 139 6 es)] (fun y=>zu [vhd y]) (fun y=>[(4,.rowA y 139 6 (es.eraseIdx i))]):=by
 refine ⟨by kernel_rfl,fun X g w vs hw hm hvl hvs => ?_⟩
 subst hw
 obtain ⟨x0,y0,z0⟩:=hvs 0 _ rfl
 obtain ⟨x1,y1,z1⟩:=hvs 1 _ rfl
 obtain ⟨x2,y2,z2⟩:=hvs 2 _ rfl
 have hv:vs = #[h,.int .i64 (i:Int),.int .i64 ((i:Int)+1)]:=by
  cases z0
  cases z1
  cases z2
  apply Array.ext'
  refine List.ext_getElem? fun j => ?_
  rcases Nat.lt_or_ge j 3 with hj | hj
  ·match j,hj with
   | 0,_=>simpa using y0
   | 1,_=>simpa using y1
   | 2,_=>simpa using y2
  ·rw [List.getElem?_eq_none (by rw [Array.length_toList,hvl]; exact hj),List.getElem?_eq_none (by simpa using hj)]
 subst hv
 have ho:ows [(4,AObj.rowA h 139 6 es)] 4=some (some (.rowA h 139 6 es)):=rfl
 obtain ⟨xs,q1,q2,q3,q4,q5⟩:=hm.ob 4 _ ho
 rcases q2.2 with ⟨rfl,e0⟩ | ⟨b,cap,cur,rfl,e2,e3,e4,e5,e6,e7⟩
 ·omega
 have hone:∀ u∈cur.toList.take (es.length * 6),u.oneCell'=true:=fun u hu=>by
  rw [e7] at hu
  obtain ⟨j,hj,rfl⟩:=List.getElem_of_mem hu
  have hj':j < es.length * 6:=by rw [← q2.1]; exact hj
  have hk:j / 6 < es.length:=by omega
  have hel:=q4 _ (List.getElem_mem hk)
  obtain ⟨x,p1,p2,p3⟩:=q5 (j / 6) (j % 6) _ (es[j / 6][j % 6]'(by rw [hel]; omega)) (List.getElem?_eq_getElem hk) (List.getElem?_eq_getElem _)
  rw [show j / 6 * 6+j % 6=j by omega,List.getElem?_eq_getElem hj] at p1
  cases p1
  exact p3
 refine (delW b es.length cap i cur X.w0 hi hn e4 e5 e3 e6 hone).mono ?_
 rintro r w' ⟨rfl,hkp,cur',k1,k2,k3⟩
 rw [e7] at k3
 have hl:(es.eraseIdx i).length=es.length - 1:=List.length_eraseIdx_of_lt hi
 let y:Value := .slice (some ⟨b,0,none⟩) (es.length - 1) cap
 let g':Gh:=⟨g.bl,fun id n=>if id=4∧n=es.length - 1 then some y else g.sv id n⟩
 have hM:∀ b',Mof X g' (ows [(4,AObj.rowA y 139 6 (es.eraseIdx i))]) b'↔Mof X g (ows [(4,AObj.rowA (.slice (some ⟨b,0,none⟩) es.length cap) 139 6 es)]) b':=fun b'=>by
  constructor
  ·rintro (h1 | ⟨id,o,h1,h2⟩)
   ·exact .inl h1
   ·obtain ⟨rfl,rfl⟩:id=4∧o=AObj.rowA y 139 6 (es.eraseIdx i):=by
     have:=(qg (l:=[(4,AObj.rowA y 139 6 (es.eraseIdx i))]) (by simp)).1 h1
     simpa using this
    exact .inr ⟨4,_,rfl,h2⟩
  ·rintro (h1 | ⟨id,o,h1,h2⟩)
   ·exact .inl h1
   ·obtain ⟨rfl,rfl⟩:id=4∧o=AObj.rowA (.slice (some ⟨b,0,none⟩) es.length cap) 139 6 es:=by
     have:=(qg (l:=[(4,AObj.rowA (.slice (some ⟨b,0,none⟩) es.length cap) 139 6 es)]) (by simp)).1 h1
     simpa using this
    exact .inr ⟨4,_,rfl,h2⟩
 have hMb:Mof X g (ows [(4,AObj.rowA (.slice (some ⟨b,0,none⟩) es.length cap) 139 6 es)]) b := .inr ⟨4,_,ho,rfl⟩
 have he:Ext (Mof X g (ows [(4,AObj.rowA (.slice (some ⟨b,0,none⟩) es.length cap) 139 6 es)])) (Mof X g' (ows [(4,AObj.rowA y 139 6 (es.eraseIdx i))])) X.w0 w':=
  ⟨hkp.size,fun b' hb hMn _=>hkp.block b' hb fun h=>hMn (by rw [List.mem_singleton.1 h]; exact hMb),fun b' hb h=>(hM b').1 h⟩
 have hb0:=hm.mine 4 _ b ho rfl
 refine ⟨y,y,g',rfl,⟨?_,hm.m0,?_,?_,?_,?_,?_⟩,rfl,rfl⟩
 ·refine hm.kp.trans hkp fun q hq => ?_
  rw [List.mem_singleton.1 hq]
  exact hb0
 ·intro id o h1
  obtain ⟨rfl,rfl⟩:id=4∧o=AObj.rowA y 139 6 (es.eraseIdx i):=by
   have:=(qg (l:=[(4,AObj.rowA y 139 6 (es.eraseIdx i))]) (by simp)).1 h1
   simpa using this
  refine ⟨xs.take (i * 6)++xs.drop ((i+1) * 6),by rw [hl]; exact if_pos ⟨rfl,rfl⟩,⟨?_,.inr ⟨b,cap,cur',by rw [hl],e2,k1,by rw [hl]; omega,e5,k2,?_⟩⟩,q3,fun el hel=>q4 el (List.mem_of_mem_eraseIdx hel),fun k c el u hj hc => ?_⟩
  ·rw [List.length_append,List.length_take,List.length_drop,q2.1,hl]; omega
  ·rw [hl,k3,← e7,List.take_take]
   congr 2
   omega
  ·rw [y4f] at hj
   have hc6:c < 6:=by
    have h1:=(List.getElem?_eq_some_iff.1 hc).1
    have h2:el∈es:=by
     split at hj
     ·exact List.mem_of_getElem? hj
     ·exact List.mem_of_getElem? hj
    rw [q4 el h2] at h1
    exact h1
   split at hj
   ·rename_i hki
    obtain ⟨x,p1,p2,p3⟩:=q5 k c el u hj hc
    refine ⟨x,?_,u.keep he p2,p3⟩
    rw [List.getElem?_append_left (by rw [List.length_take,q2.1]; omega),List.getElem?_take_of_lt (by omega)]
    exact p1
   ·rename_i hki
    obtain ⟨x,p1,p2,p3⟩:=q5 (k+1) c el u hj hc
    refine ⟨x,?_,u.keep he p2,p3⟩
    have hlt:(xs.take (i * 6)).length=i * 6:=by rw [List.length_take,q2.1]; omega
    rw [List.getElem?_append_right (by rw [hlt]; omega),hlt,List.getElem?_drop,← p1]
    congr 1
    omega
 ·intro id id' o o' b' h1 h2 _ _
  have e1:=(qg (l:=[(4,AObj.rowA y 139 6 (es.eraseIdx i))]) (by simp)).1 h1
  have e2:=(qg (l:=[(4,AObj.rowA y 139 6 (es.eraseIdx i))]) (by simp)).1 h2
  simp at e1 e2
  rw [e1.1,e2.1]
 ·intro id o b' h1 h2
  obtain ⟨rfl,rfl⟩:id=4∧o=AObj.rowA y 139 6 (es.eraseIdx i):=by
   have:=(qg (l:=[(4,AObj.rowA y 139 6 (es.eraseIdx i))]) (by simp)).1 h1
   simpa using this
  exact hm.mine 4 _ b' ho h2
 ·intro id h1
  have hid:id≠4:=by simpa using jp.1 h1
  have h3:=hm.fresh id (jp.2 (by simpa using hid))
  exact ⟨h3.1,fun n=>by rw [← h3.2 n]; exact if_neg fun h=>hid h.1⟩
 ·intro id e s es' h1
  have:=(qg (l:=[(4,AObj.rowA y 139 6 (es.eraseIdx i))]) (by simp)).1 h1
  simp at this
end Go.Proofs.YtgdijjmdfcgifaaGreat
