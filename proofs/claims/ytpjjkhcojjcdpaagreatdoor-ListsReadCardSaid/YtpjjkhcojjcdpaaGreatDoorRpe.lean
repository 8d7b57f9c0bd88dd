/- strings.NewReplacer and Replace at quotes and backslashes: the contracts. -/
import Derived.Test.YtpjjkhcojjcdpaaGreatDoorRpd
import Derived.Test.YtpjjkhcojjcdpaaGreatDoorLibK
namespace Go.Proofs.YtpjjkhcojjcdpaaGreatDoor
open Go.RowKit Go.Lib
set_option linter.unusedVariables false
set_option maxRecDepth 100000
def z7z (es:List (List V)):V:=
 ⟨fun w M v=>∃ q c,v = .slice (some ⟨q,0,none⟩) es.length c∧xt w M q 0 1 es,true,fun e ⟨q,c,h1,h2⟩=>⟨q,c,h1,h2.keep e⟩,fun _ _ _ v ⟨q,c,h1,_⟩=>by rw [h1]; rfl⟩
def l4:List Bs:=[[92],[92,92],[34],[92,34]]
def z0z:AObj := .box none 125 [.dat (vval (.int .u32 0)),.dat (vval (.int .i32 0)),.dat (vval (.int .u32 0)),.dat (vval .nilIface),.dat (z7z (List.map (fun x=>[vstr x]) l4))]
def y4d:AObj := .box (some 0) 125 [.dat (vval (.int .u32 0)),.dat (vval (.int .i32 0)),.dat (vval (.int .u32 0)),.dat (vval .nilIface),.dat (z7z (List.map (fun x=>[vstr x]) l4))]
theorem uu {w:World} {M:Blks} {q off:Nat} {arr:Array Value} {t:TypeId} {fz:Nat×Nat} (h1:w.heap[q]?=some (.cells arr t fz)) (h3:∀ (k c:Nat) (el:List V) (u:V),(List.map (fun x=>[vstr x]) l4)[k]?=some el→el[c]?=some u→∃ x,arr[off+k * 1+c]?=some x∧u.p w M x∧x.oneCell'=true) (k:Nat) (s:Bs) (hk:l4[k]?=some s):w.cell? ⟨q,off+k,none⟩=some (.string ⟨s.toArray⟩):=by
 obtain ⟨x,p1,p2,_⟩:=h3 k 0 [vstr s] (vstr s) (by rw [List.getElem?_map,hk]; rfl) rfl
 rw [cell_of_row w q _ _ _ _ h1]
 have p2:x = .string ⟨s.toArray⟩:=p2
 rw [Nat.mul_one,Nat.add_zero] at p1
 rw [p1,p2]
theorem y5q:FnG Tryz.prog 60 [.dat (vlst (List.map (fun x=>[vstr x]) l4))] [] (.ptr 900 0) [(900,z0z)]:=by
 refine ⟨by kernel_rfl,fun X A g w vs hw hm hsz hargs => ?_⟩
 subst hw
 obtain ⟨v0,hv0,A0,c0,rfl,hc,hr⟩:=hargs 0 _ rfl
 obtain ⟨q,off,size,rfl,hM,arr,t,fz,h1,h2,h3⟩:=hr (by simp [l4])
 have hs1:size=1:=(h2 [vstr [92]] (by simp [l4])).symm
 subst hs1
 have hvs:vs = #[.slice (some ⟨q,off,none⟩) 4 c0]:=by
  have h1:vs.size=1:=hsz
  apply Array.ext
  ·simpa using h1
  ·intro i hi1 hi2
   have:i=0:=by omega
   subst this
   rw [Array.getElem?_eq_getElem hi1] at hv0
   simpa [l4] using hv0
 subst hvs
 refine (y47 q off c0 X.w0 (uu h1 h3 0 _ rfl) (uu h1 h3 1 _ rfl) (uu h1 h3 2 _ rfl) (uu h1 h3 3 _ rfl)).mono ?_
 rintro e w' ⟨b,q',c',cs,rfl,hk,hb1,hq1,hqb,hc',hB,hQ,s0,s1,s2,s3⟩
 obtain ⟨g',hg1,hg2,hg3⟩:∃ g':Gh,g'.bl 900=some b∧(∀ i,i≠900→g'.bl i=none)∧∀ i n,g'.sv i n=none:=⟨⟨fun i=>cond (Nat.beq i 900) (some b) none,fun _ _=>none⟩,rfl,fun i hi=>by show cond (Nat.beq i 900) (some b) none=none; rw [yy hi]; rfl,fun _ _=>rfl⟩
 have hbl:g'.bl 900=some b:=hg1
 have hown:∀ id o,ows (anL A [(900,z0z)]) id=some (some o)→id=900∧o=z0z:=by
  intro id o ho
  have:=(jo (by simp [anL]) (id:=id) (o:=o)).1 ho
  simpa [anL,anO,z0z] using this
 have hMq:¬ Mof X g' (ows (anL A [(900,z0z)])) q':=by
  rintro (h | ⟨id,o,p1,p2⟩)
  ·have:=(hm.m0.1 q' h).1; omega
  ·obtain ⟨rfl,rfl⟩:=hown id o p1
   have p2:g'.bl 900=some q':=p2
   rw [hbl] at p2; cases p2; exact hqb rfl
 refine ⟨_,g',rfl,⟨hk.up,hm.m0,?_,?_,?_,?_,?_⟩,b,hbl,rfl⟩
 ·intro id o ho
  obtain ⟨rfl,rfl⟩:=hown id o ho
  refine ⟨b,[.int .u32 0,.int .i32 0,.int .u32 0,.nilIface,.slice (some ⟨q',0,none⟩) 4 c'],hbl,(fun q hq=>by cases hq),hB,rfl,fun j s hj => ?_⟩
  rcases j with _ | _ | _ | _ | _ | j
  ·cases hj; exact ⟨_,rfl,rfl,rfl⟩
  ·cases hj; exact ⟨_,rfl,rfl,rfl⟩
  ·cases hj; exact ⟨_,rfl,rfl,rfl⟩
  ·cases hj; exact ⟨_,rfl,rfl,rfl⟩
  ·cases hj
   refine ⟨_,rfl,⟨q',c',rfl,hMq,cs,_,_,hQ,fun el hel => ?_,fun k c el u hk' hc2 => ?_⟩,rfl⟩
   ·obtain ⟨y,_,rfl⟩:=List.mem_map.1 hel; rfl
   ·rw [List.getElem?_map] at hk'
    obtain ⟨y,hy,rfl⟩:=Option.map_eq_some_iff.1 hk'
    rcases c with _ | c
    ·cases hc2
     rcases k with _ | _ | _ | _ | k
     ·cases hy; exact ⟨_,s0,rfl,rfl⟩
     ·cases hy; exact ⟨_,s1,rfl,rfl⟩
     ·cases hy; exact ⟨_,s2,rfl,rfl⟩
     ·cases hy; exact ⟨_,s3,rfl,rfl⟩
     ·simp [l4] at hy
    ·simp at hc2
  ·simp at hj
 ·intro id id' o o' b' p1 p2 _ _
  rw [(hown id o p1).1,(hown id' o' p2).1]
 ·intro id o b' p1 p2
  obtain ⟨rfl,rfl⟩:=hown id o p1
  have p2:g'.bl 900=some b':=p2
  rw [hbl] at p2; cases p2; exact .inr hb1
 ·intro id hid
  have hne:id≠900:=fun h=>by subst h; cases hid
  exact ⟨hg2 id hne,fun n=>hg3 id n⟩
 ·intro id e size es p1
  have:=(hown id _ p1).2
  cases this
theorem y5n {s r:Bs} (hs:Zv s=some r):FnG Tryz.prog 61 [.ptr 0 0,.dat (vstr s)] [(0,y4d)] (.dat (zu [vstr r])) []:=by
 refine ⟨by kernel_rfl,fun X A g w vs hw hm hsz hargs => ?_⟩
 subst hw
 obtain ⟨b,lv,q1,q0,q2,q3,q4⟩:=hm.ob 0 _ rfl
 obtain ⟨v0,hv0,b2,hb2,rfl⟩:=hargs 0 _ rfl
 obtain ⟨v1,hv1,hv1'⟩:=hargs 1 _ rfl
 have hv1':v1 = .string ⟨s.toArray⟩:=hv1'
 subst hv1'
 rw [q1] at hb2
 cases hb2
 have hvs:vs = #[.pointer (some ⟨b,0,none⟩),.string ⟨s.toArray⟩]:=by
  apply Array.ext_getElem?
  intro k
  rcases k with _ | _ | k
  ·rw [hv0]; rfl
  ·rw [hv1]; rfl
  ·rw [Array.getElem?_eq_none (by simp at hsz; omega),Array.getElem?_eq_none (by simp)]
 subst hvs
 obtain ⟨x0,s0,t0,_⟩:=q4 0 _ rfl
 obtain ⟨x1,s1,t1,_⟩:=q4 1 _ rfl
 obtain ⟨x2,s2,t2,_⟩:=q4 2 _ rfl
 obtain ⟨x3,s3,t3,_⟩:=q4 3 _ rfl
 obtain ⟨x4,s4,t4,_⟩:=q4 4 _ rfl
 have t0:x0 = .int .u32 0:=t0
 have t1:x1 = .int .i32 0:=t1
 have t2:x2 = .int .u32 0:=t2
 have t3:x3 = .nilIface:=t3
 obtain ⟨q,c,rfl,hM,arr,t,fz,h1,h2,h3⟩:=t4
 subst t0 t1 t2 t3
 have hlv:lv=[.int .u32 0,.int .i32 0,.int .u32 0,.nilIface,.slice (some ⟨q,0,none⟩) 4 c]:=by
  apply List.ext_getElem?
  intro k
  rcases k with _ | _ | _ | _ | _ | k
  ·rw [s0]; rfl
  ·rw [s1]; rfl
  ·rw [s2]; rfl
  ·rw [s3]; rfl
  ·rw [s4]; rfl
  ·rw [List.getElem?_eq_none (by simp at q3; omega),List.getElem?_eq_none (by simp)]
 subst hlv
 have hqb:q≠b:=fun h=>hM (.inr ⟨0,_,rfl,by show g.bl 0=some q; rw [h]; exact q1⟩)
 refine (y4h b q c _ X.w0 q2 (Yj h1) hqb (by have:=uu h1 h3 0 _ rfl; exact this) (by have:=uu h1 h3 1 _ rfl; exact this) (by have:=uu h1 h3 2 _ rfl; exact this) (by have:=uu h1 h3 3 _ rfl; exact this) s r hs).mono ?_
 rintro e w' ⟨rfl,hk⟩
 refine ⟨_,⟨fun _=>none,fun _ _=>none⟩,rfl,⟨⟨hk.os,hk.tape,hk.output,hk.size,fun k hk1 hk2=>hk.block k hk1 fun hk3 => ?_⟩,hm.m0,fun id o ho=>(by cases ho),fun id id' o o' b ho=>(by cases ho),fun id o b ho=>(by cases ho),fun id _=>⟨rfl,fun _=>rfl⟩,fun id e size es ho=>(by cases ho)⟩,rfl⟩
 have:k=b:=by simpa using hk3
 subst this
 rcases hm.mine 0 _ k rfl q1 with h5 | h5
 ·exact hk2 h5
 ·omega
end Go.Proofs.YtpjjkhcojjcdpaaGreatDoor
