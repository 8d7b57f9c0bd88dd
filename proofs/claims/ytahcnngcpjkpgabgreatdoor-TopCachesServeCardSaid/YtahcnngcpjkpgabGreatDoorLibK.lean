/- The abstract machine: a library's function that shortens a row; results of two values; new rows of strings. No program. -/
import Derived.Test.YtahcnngcpjkpgabGreatDoorMc
import Derived.Shelf.Vars
import Derived.Lib.SplitLaws
namespace Go.Proofs.YtahcnngcpjkpgabGreatDoor
open Go.RowKit
set_option linter.unusedVariables false
theorem w9x {α:Type} [Inhabited α] {P:Program} {fn:Nat} {e:TypeId} (enc:α→Value) (z:α) (ys xs:List α) (hlen:ys.length≤xs.length) (hok:kx P fn=true) (hone:∀ x,(enc x).oneCell'=true)
  (h:∀ (blk cap:Nat) (w:World),Sort.Holds enc w blk 0 xs.toArray→xs.length≤cap→Calls P fn #[.slice (some ⟨blk,0,none⟩) xs.length cap] w fun r w'=>r = .returned (.slice (some ⟨blk,0,none⟩) ys.length cap)∧∃ q,w'=Sort.putRow enc (Sort.ahead w q) blk 0 (ys++List.replicate (xs.length - ys.length) z).toArray)
  (hnil:xs=[]→∀ (a:Option Addr) (cap:Nat) (w:World),Calls P fn #[.slice a 0 cap] w fun r w'=>r = .returned (.slice a 0 cap)∧w'=w) :
  FnG P fn [.row 0 xs.length] [(0,.row e 1 (xs.map fun x=>[vval (enc x)]))] (.row 900 ys.length) [(900,.row e 1 (ys.map fun x=>[vval (enc x)]))]:=by
 refine ⟨hok,fun X A g w vs hw hm hvl hvs => ?_⟩
 obtain ⟨v,hv1,hv2⟩:=hvs 0 _ rfl
 have hv2:g.sv 0 xs.length=some v:=hv2
 have hvs':vs = #[v]:=by
  apply Array.ext_getElem?
  intro i
  rcases i with _ | i
  ·rw [hv1]; rfl
  ·rw [Array.getElem?_eq_none (by simp at hvl; omega),Array.getElem?_eq_none (by simp)]
 subst hvs'
 obtain ⟨v0,cs,o1,o2,o3,o4,o5⟩:=hm.ob 0 _ rfl
 simp only [List.length_map] at o1 o2
 rw [hv2] at o1
 cases o1
 have hcs:cs=xs.map enc:=by
  apply List.ext_getElem?
  intro k
  rcases Nat.lt_or_ge k xs.length with hk | hk
  ·obtain ⟨x,q1,q2,q3⟩:=o5 k 0 [vval (enc xs[k])] (vval (enc xs[k])) (by rw [List.getElem?_map,List.getElem?_eq_getElem hk]; rfl) rfl
   have q2:x=enc xs[k]:=q2
   rw [List.getElem?_map,List.getElem?_eq_getElem hk]
   simpa [q2] using q1
  ·rw [List.getElem?_eq_none (by rw [o2.1]; omega),List.getElem?_eq_none (by simpa using hk)]
 have hfin:∀ (v':Value) (w':World),Kp X.S0 X.w0 w'→w'.ownsRow 0 e 1 v' ys.length (ys.map enc)→(∀ b,v'.ownBlock=some b→b∈X.S0∨X.w0.heap.size≤b) →
   ∃ v g',Ending.returned v' = .returned v∧Mem X (ows (anL A [(900,AObj.row e 1 (ys.map fun x=>[vval (enc x)]))])) g' w'∧RepS g' w' (Mof X g' (ows (anL A [(900,AObj.row e 1 (ys.map fun x=>[vval (enc x)]))]))) (.row 900 ys.length) v:=by
  intro v' w' hk ho hb
  let g':Gh:=⟨fun _=>none,fun i k=>if i=900∧k=ys.length then some v' else none⟩
  have hsv:g'.sv 900 ys.length=some v':=if_pos ⟨rfl,rfl⟩
  have hown:∀ id o,ows (anL A [(900,AObj.row e 1 (ys.map fun x=>[vval (enc x)]))]) id=some (some o)→id=900∧o = .row e 1 (ys.map fun x=>[vval (enc x)]):=by
   intro id o ho
   have:=(xx (by simp [anL]) (id:=id) (o:=o)).1 ho
   simpa [anL,anO] using this
  refine ⟨v',g',rfl,⟨hk,hm.m0,?_,?_,?_,?_,?_⟩,hsv⟩
  ·intro id o ho'
   obtain ⟨rfl,rfl⟩:=hown id o ho'
   refine ⟨v',ys.map enc,by simpa using hsv,by simpa using ho,by omega,fun el hel => ?_,fun k c el u hk' hc => ?_⟩
   ·obtain ⟨y,_,rfl⟩:=List.mem_map.1 hel
    rfl
   ·rw [List.getElem?_map] at hk'
    cases hq:ys[k]? with
    | none=>rw [hq] at hk'; cases hk'
    | some y =>
     rw [hq] at hk'
     cases hk'
     rcases c with _ | c
     ·cases hc
      exact ⟨enc y,by rw [Nat.mul_one,Nat.add_zero,List.getElem?_map,hq]; rfl,rfl,hone y⟩
     ·simp at hc
  ·intro id id' o o' b h1 h2 _ _
   rw [(hown id o h1).1,(hown id' o' h2).1]
  ·intro id o b h1 h2
   obtain ⟨rfl,rfl⟩:=hown id o h1
   simp only [obk,List.length_map,hsv,Option.bind_some] at h2
   exact hb b h2
  ·intro id h1
   refine ⟨rfl,fun n => ?_⟩
   have:id≠900:=by
    rintro rfl
    have:ows (anL A [(900,AObj.row e 1 (ys.map fun x=>[vval (enc x)]))]) 900=some (some (.row e 1 (ys.map fun x=>[vval (enc x)]))):=rfl
    rw [this] at h1; cases h1
   exact if_neg fun h=>this h.1
  ·intro id e' s' es' h1 k hk'
   obtain ⟨rfl,h3⟩:=hown id _ h1
   cases h3
   simp only [List.length_map] at hk'
   exact if_neg (by omega)
 have hkp:=hm.kp
 rw [← hw] at *
 by_cases hx0:xs=[]
 ·have hy0:ys=[]:=List.eq_nil_of_length_eq_zero (by rw [hx0] at hlen; simpa using hlen)
  subst hx0 hy0
  have hcase:∃ a cap,v = .slice a 0 cap:=by
   rcases o2.2 with ⟨e1,e2⟩ | ⟨b,cap,cur,e1,_⟩
   ·exact ⟨none,0,e1⟩
   ·exact ⟨_,cap,e1⟩
  obtain ⟨a,cap,rfl⟩:=hcase
  refine (hnil rfl a cap X.w0).mono ?_
  rintro r w' ⟨rfl,rfl⟩
  refine hfin _ _ hkp (by rw [hcs] at o2; exact o2) (fun b hb=>hm.mine 0 _ b rfl ?_)
  show (g.sv 0 _).bind _=_
  simp only [List.map_nil,List.length_nil] at hv2 ⊢
  rw [hv2]; exact hb
 ·rcases o2.2 with ⟨e1,e2⟩ | ⟨b,cap,cur,e1,_,e3,e4,e5,e6,e7⟩
  ·exact absurd (List.eq_nil_of_length_eq_zero e2) hx0
  ·have hob:obk g 0 (.row e 1 (xs.map fun x=>[vval (enc x)]))=some b:=by simp only [obk,List.length_map,hv2,Option.bind_some,e1]; rfl
   have hmine:=hm.mine 0 _ b rfl hob
   have hbl:b < X.w0.heap.size:=z00 e3
   have hbS:b∈X.S0:=by
    rcases hmine with h | h
    ·exact h
    ·omega
   have hxs:(cur.toList.take (xs.length * 1))=xs.map enc:=by rw [e7,hcs]
   have hcell:∀ j,j < xs.length→cur[j]?=some (enc xs[j]!):=fun j hj=>by
    have h1:=congrArg (fun l=>l[j]?) hxs
    simp only [Nat.mul_one] at h1
    rw [List.getElem?_take_of_lt hj,List.getElem?_map,List.getElem?_eq_getElem hj] at h1
    rw [getElem!_pos xs j hj]
    simpa using h1
   rw [e1]
   refine (h b cap X.w0 (fun j hj=>⟨?_,?_⟩) e4).mono ?_
   ·rw [cell_of_row X.w0 b _ _ _ _ e3]
    have hj':j < xs.length:=by simpa using hj
    rw [Nat.zero_add,hcell j hj']
    simp
   ·simp [World.frozen?,e3]
   ·rintro r w' ⟨rfl,q,rfl⟩
    have hheap:∀ k,k < X.w0.heap.size→(Sort.putRow enc (Sort.ahead X.w0 q) b 0 (ys++List.replicate (xs.length - ys.length) z).toArray).heap[k]?=if b=k then (X.w0.heap[k]?).map (Sort.onCells (Sort.putCells enc 0 (ys++List.replicate (xs.length - ys.length) z).toArray)) else X.w0.heap[k]?:=fun k hk=>by
     simp [Sort.putRow,Sort.mapBlock,Sort.ahead,Array.getElem?_modify]
    have hb':=hheap b hbl
    rw [if_pos rfl,e3] at hb'
    refine hfin _ _ ⟨rfl,rfl,rfl,by simp [Sort.putRow,Sort.mapBlock,Sort.ahead],fun k hk hn => ?_⟩ ?_ (fun b' hb2=>by cases hb2; exact hmine)
    ·rw [hheap k hk,if_neg (by rintro rfl; exact hn hbS)]
    ·refine ⟨by simp,.inr ⟨b,cap,Sort.putCells enc 0 (ys++List.replicate (xs.length - ys.length) z).toArray cur,rfl,Nat.zero_le _,hb',by omega,e5,by simp [Sort.putCells,e6],?_⟩⟩
     apply List.ext_getElem?
     intro k
     simp only [Nat.mul_one]
     rcases Nat.lt_or_ge k ys.length with hk | hk
     ·have hkc:k < cur.size:=by rw [e6]; omega
      rw [List.getElem?_take_of_lt hk,List.getElem?_map,List.getElem?_eq_getElem hk]
      have hkl:k < (ys++List.replicate (xs.length - ys.length) z).length:=by simp; omega
      simp [Sort.putCells,hkc]
      rw [if_pos (by omega),List.getElem?_append_left hk,List.getElem?_eq_getElem hk]
      rfl
     ·rw [List.getElem?_eq_none (by simp; omega),List.getElem?_eq_none (by simpa using hk)]
theorem w9w {P:Program} {fn:Nat} {args:List V} {e:TypeId} (rs:List Bs) (hok:kx P fn=true)
  (h:∀ (M:Blks) (w:World) (vs:List Value),Mlt w M→Ts w M args vs→Calls P fn vs.toArray w fun r w'=>r = .returned (.slice (some ⟨w.heap.size,0,none⟩) rs.length rs.length)∧w'=w.alloc (.cells ((rs.map fun s=>Value.string ⟨s.toArray⟩)).toArray e)) (hl:rs.length≤maxLen) :
  FnG P fn (args.map .dat) [] (.row 900 rs.length) [(900,.row e 1 (rs.map fun s=>[vstr s]))]:=by
 have hk:=x7x (P:=P) (fn:=fn) (args:=args) (e:=e) (size:=1) (es:=rs.map fun s=>[vstr s]) hok (by omega) (by simp) fun M w vs hM hvs => ?_
 ·rw [List.length_map] at hk; exact hk
 ·refine (h M w vs hM hvs).mono ?_
  rintro r w' ⟨rfl,rfl⟩
  refine ⟨_,rs.map fun s=>Value.string ⟨s.toArray⟩,rfl,(Kp.refl [] w).alloc _,?_,fun M' _ k c el u hk hc => ?_⟩
  ·simp only [List.length_map]
   refine ⟨by simp,.inr ⟨w.heap.size,rs.length,_,rfl,Nat.le_refl _,heap_alloc_new w _,Nat.le_refl _,hl,by simp,?_⟩⟩
   simp only [Nat.mul_one]
   exact List.take_of_length_le (by simp)
  ·rw [List.getElem?_map] at hk
   cases hq:rs[k]? with
   | none=>rw [hq] at hk; cases hk
   | some y =>
    rw [hq] at hk
    cases hk
    rcases c with _ | c
    ·cases hc
     exact ⟨Value.string ⟨y.toArray⟩,by rw [Nat.mul_one,Nat.add_zero,List.getElem?_map,hq]; rfl,rfl,rfl⟩
    ·simp at hc
theorem y7r {w:World} {M:Blks} (h:Mlt w M):∃ m,w.cell? ⟨0,0,none⟩=some (.int .i64 m):=by
 obtain ⟨_,⟨w1,h1,_,h2⟩,_⟩:=h
 obtain ⟨m,hm⟩:=cell_of_shapedOpen_int (g:=0) (zero := #[.int .i64 0]) (t:=3) (k := .i64) (h1 (by decide)) (of_decide_eq_true (by kernel_rfl)) (by kernel_rfl) rfl (by kernel_rfl) (by kernel_rfl) (by kernel_rfl)
 refine ⟨m,?_⟩
 have h3:=(h2 0 (by decide)).2
 simp only [World.cell?] at hm ⊢
 rw [h3]; exact hm
theorem v1z {w:World} {M:Blks} (h:Mlt w M):∃ (tp:TypeId) (p:Value),w.cell? ⟨6,0,none⟩=some (.iface tp p):=by
 obtain ⟨_,⟨w1,h1,hP,h2⟩,_⟩:=h
 obtain ⟨tp,p,h4⟩:=hP.2.1
 refine ⟨tp,p,?_⟩
 have h3:=(h2 6 (by decide)).2
 simp only [World.cell?] at h4 ⊢
 rw [h3]; exact h4
theorem v1y {w:World} {M:Blks} (h:Mlt w M):∃ (tp:TypeId) (p:Value),w.cell? ⟨5,0,none⟩=some (.iface tp p):=by
 obtain ⟨_,⟨w1,h1,hP,h2⟩,_⟩:=h
 obtain ⟨tp,p,h4⟩:=hP.2.2.1
 refine ⟨tp,p,?_⟩
 have h3:=(h2 5 (by decide)).2
 simp only [World.cell?] at h4 ⊢
 rw [h3]; exact h4
theorem w4j {w : World} {M : Blks} (h : Mlt w M) : Lib.TabIs Tryz.prog w "internal/strconv.uint64pow10" .u64 Lib.pow10Tab := by
  obtain ⟨_, ⟨w1, h1, hP, h2⟩, _⟩ := h
  have h4 := hP.2.2.2.1
  have h3 := (h2 4 (by decide)).2
  have hg : Tryz.prog.globalNamed "internal/strconv.uint64pow10" = some 4 := by kernel_rfl
  unfold Lib.TabIs World.var? at h4 ⊢
  rw [hg] at h4 ⊢
  simp only [Option.bind_some] at h4 ⊢
  rw [h3]; exact h4
end Go.Proofs.YtahcnngcpjkpgabGreatDoor
