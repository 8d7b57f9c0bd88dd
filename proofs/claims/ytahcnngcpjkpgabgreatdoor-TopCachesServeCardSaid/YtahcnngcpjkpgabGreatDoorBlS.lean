/- strings.Builder: String gives the bytes and the builder is done with. -/
import Derived.Test.YtahcnngcpjkpgabGreatDoorBld
namespace Go.Proofs.YtahcnngcpjkpgabGreatDoor
open Go.RowKit Go.Shelf
set_option linter.unusedVariables false
theorem y3o {S:List Nat} {a w:World} (h:Kp S a w):Kp S a w.drew:=⟨h.os,h.tape,h.output,h.size,h.block⟩
theorem w5u {S:List Nat} {a w:World} (h:Kp S a w) {g:Nat} (hg:g∈S) (n:Nat):Kp S a (w.freeze ⟨g,0,none⟩ n):=by
 unfold World.freeze
 split
 ·exact h
 ·refine ⟨h.os,h.tape,h.output,by simpa using h.size,fun k hk hn => ?_⟩
  have hne:g≠k:=fun e=>hn (e ▸ hg)
  show (w.heap.modify g _)[k]?=_
  rw [Array.getElem?_modify,if_neg hne]
  exact h.block k hk hn
section
variable {P:Program} {ρ:Ren}
set_option maxHeartbeats 2000000
set_option maxRecDepth 100000
theorem v1d (L:Lays.n169 P ρ) (X:Builder.Extra P ρ) (b g cap:Nat) (p:Value) (cur:Array Value) (l:List UInt8) (w:World) (h0:l≠[]) (hlc:l.length≤cap) (hcm:cap≤maxLen) (hcs:cur.size=cap)
  (hbk:w.heap[b]?=some (.cells #[p,.slice (some ⟨g,0,none⟩) l.length cap] (ρ.t 72) (0,0))) (hg:w.heap[g]?=some (.cells cur (ρ.t 5) (0,0))) (hel:∀ (j:Nat) (x:UInt8),l[j]?=some x→w.cell? ((⟨g,0,none⟩:Addr).add j)=some (.int .u8 x.toNat)) :
  Calls P (ρ.f 169) #[.pointer (some ⟨b,0,none⟩)] w fun e w'=>e = .returned (.string ⟨l.toArray⟩)∧Kp [g] w w':=by
 have hl0:l.length≠0:=by simpa using h0
 have c1:w.drew.cell? ⟨b,1,none⟩=some (.slice (some ⟨g,0,none⟩) l.length cap):=by
  have:w.drew.heap[b]?=some (.cells #[p,.slice (some ⟨g,0,none⟩) l.length cap] (ρ.t 72) (0,0)):=hbk
  rw [Lib.cell_of_heap this]; rfl
 have hSD:(Builtin.unsafeSliceData_ #[(ρ.t 37)] (ρ.t 127) #[.slice (some ⟨g,0,none⟩) l.length cap]).run P w.drew = .ok (.pointer (some ⟨g,0,none⟩)) w.drew:=
  Lib.run_unsafeSliceData_row _ _ _ _ _ _ (by omega)
 have hUS:(Builtin.unsafeString_ #[(ρ.t 127),(ρ.t 3)] (ρ.t 9) #[.pointer (some ⟨g,0,none⟩),.int .i64 l.length]).run P w.drew = .ok (.string ⟨l.toArray⟩) (w.drew.freeze ⟨g,0,none⟩ l.length):=by
  refine Lib.run_unsafeString_row w.drew (ρ.t 127) (ρ.t 3) (ρ.t 9) (ρ.t 5) L.t127 X.cellsByte g cur.size (by have hg':w.drew.heap[g]?=some (.cells cur (ρ.t 5) (0,0)):=hg; simp [World.shape?,hg']) l h0 (by omega) (by unfold maxLen at hcm; omega) ?_
  intro j x hx
  exact hel j x hx
 have mixed:=L.mixed
 have t72:=L.t72; have a72:=L.a72; have z72:=L.z72; have v72:=L.v72; have u72:=run_underlying L.t72
 have t70:=L.t70; have a70:=L.a70; have z70:=L.z70; have v70:=L.v70; have u70:=run_underlying L.t70
 have t37:=L.t37; have a37:=L.a37; have z37:=L.z37; have v37:=L.v37; have u37:=run_underlying L.t37
 have t127:=L.t127; have a127:=L.a127; have z127:=L.z127; have v127:=L.v127; have u127:=run_underlying L.t127
 have t3:=L.t3; have a3:=L.a3; have z3:=L.z3; have v3:=L.v3; have u3:=run_underlying L.t3
 have t9:=L.t9; have a9:=L.a9; have z9:=L.z9; have v9:=L.v9; have u9:=run_underlying L.t9
 have t5:=X.t5; have a5:=X.a5; have z5:=X.z5; have v5:=X.v5; have u5:=run_underlying X.t5
 go_enter L.f169,Body.n169_ntmps ρ
 go_wp2
 go_region_o
 all_goals (go_wp2; go_ret; exact ⟨rfl,w5u (y3o (Kp.refl _ w)) (by simp) _⟩)
theorem v1g (L:Lays.n169 P ρ) (X:Builder.Extra P ρ) (b:Nat) (p:Value) (w:World) (hbk:w.heap[b]?=some (.cells #[p,.slice none 0 0] (ρ.t 72) (0,0))) :
  Calls P (ρ.f 169) #[.pointer (some ⟨b,0,none⟩)] w fun e w'=>e = .returned (.string ⟨#[]⟩)∧Kp [] w w':=by
 have hUS:=Any.unsafeString_none L X
 have c1:w.drew.cell? ⟨b,1,none⟩=some (.slice none 0 0):=by
  have:w.drew.heap[b]?=some (.cells #[p,.slice none 0 0] (ρ.t 72) (0,0)):=hbk
  rw [Lib.cell_of_heap this]; rfl
 have hSD:(Builtin.unsafeSliceData_ #[(ρ.t 37)] (ρ.t 127) #[.slice none 0 0]).run P w.drew = .ok (.pointer none) w.drew:=rfl
 have mixed:=L.mixed
 have t72:=L.t72; have a72:=L.a72; have z72:=L.z72; have v72:=L.v72; have u72:=run_underlying L.t72
 have t70:=L.t70; have a70:=L.a70; have z70:=L.z70; have v70:=L.v70; have u70:=run_underlying L.t70
 have t37:=L.t37; have a37:=L.a37; have z37:=L.z37; have v37:=L.v37; have u37:=run_underlying L.t37
 have t127:=L.t127; have a127:=L.a127; have z127:=L.z127; have v127:=L.v127; have u127:=run_underlying L.t127
 have t3:=L.t3; have a3:=L.a3; have z3:=L.z3; have v3:=L.v3; have u3:=run_underlying L.t3
 have t9:=L.t9; have a9:=L.a9; have z9:=L.z9; have v9:=L.v9; have u9:=run_underlying L.t9
 have t5:=X.t5; have a5:=X.a5; have z5:=X.z5; have v5:=X.v5; have u5:=run_underlying X.t5
 go_enter L.f169,Body.n169_ntmps ρ
 go_wp2
 go_region_o
 all_goals (go_wp2; go_ret; exact ⟨rfl,y3o (Kp.refl _ w)⟩)
theorem v1f (L:Lays.n169 P ρ) (X:Builder.Extra P ρ) (b g:Nat) (p:Value) (cur:Array Value) (w:World) (hbk:w.heap[b]?=some (.cells #[p,.slice (some ⟨g,0,none⟩) 0 0] (ρ.t 72) (0,0))) (hg:w.heap[g]?=some (.cells cur (ρ.t 5) (0,0))) :
  Calls P (ρ.f 169) #[.pointer (some ⟨b,0,none⟩)] w fun e w'=>e = .returned (.string ⟨#[]⟩)∧Kp [] w w':=by
 have hUS:=Any.unsafeString_none L X
 have hlt:b < w.heap.size:=z00 hbk
 have c1:w.drew.cell? ⟨b,1,none⟩=some (.slice (some ⟨g,0,none⟩) 0 0):=by
  have:w.drew.heap[b]?=some (.cells #[p,.slice (some ⟨g,0,none⟩) 0 0] (ρ.t 72) (0,0)):=hbk
  rw [Lib.cell_of_heap this]; rfl
 have hSD:(Builtin.unsafeSliceData_ #[(ρ.t 37)] (ρ.t 127) #[.slice (some ⟨g,0,none⟩) 0 0]).run P w.drew = .ok (.pointer (some ⟨w.drew.heap.size,0,none⟩)) (w.drew.alloc (.view ⟨g,0,none⟩ (ρ.t 5))):=
  Lib.run_unsafeSliceData_zero w.drew _ _ (ρ.t 5) L.t127 ⟨g,0,none⟩ 0 ((ρ.t 5),cur.size) (by have hg':w.drew.heap[g]?=some (.cells cur (ρ.t 5) (0,0)):=hg; simp [World.shape?,hg'])
 have c2:(w.drew.alloc (.view ⟨g,0,none⟩ (ρ.t 5))).cell? ⟨b,1,none⟩=some (.slice (some ⟨g,0,none⟩) 0 0):=by
  have:(w.drew.alloc (.view ⟨g,0,none⟩ (ρ.t 5))).heap[b]?=_:=(Lib.alloc_old w.drew _ b hlt).trans hbk
  rw [Lib.cell_of_heap this]; rfl
 have c3:(w.alloc (.view ⟨g,0,none⟩ (ρ.t 5))).drew.cell? ⟨b,1,none⟩=some (.slice (some ⟨g,0,none⟩) 0 0):=c2
 have c0:w.cell? ⟨b,1,none⟩=some (.slice (some ⟨g,0,none⟩) 0 0):=c1
 have mixed:=L.mixed
 have t72:=L.t72; have a72:=L.a72; have z72:=L.z72; have v72:=L.v72; have u72:=run_underlying L.t72
 have t70:=L.t70; have a70:=L.a70; have z70:=L.z70; have v70:=L.v70; have u70:=run_underlying L.t70
 have t37:=L.t37; have a37:=L.a37; have z37:=L.z37; have v37:=L.v37; have u37:=run_underlying L.t37
 have t127:=L.t127; have a127:=L.a127; have z127:=L.z127; have v127:=L.v127; have u127:=run_underlying L.t127
 have t3:=L.t3; have a3:=L.a3; have z3:=L.z3; have v3:=L.v3; have u3:=run_underlying L.t3
 have t9:=L.t9; have a9:=L.a9; have z9:=L.z9; have v9:=L.v9; have u9:=run_underlying L.t9
 have t5:=X.t5; have a5:=X.a5; have z5:=X.z5; have v5:=X.v5; have u5:=run_underlying X.t5
 go_enter L.f169,Body.n169_ntmps ρ
 go_wp2
 go_region_o
 all_goals (go_wp2; go_ret; exact ⟨rfl,(y3o (Kp.refl _ w)).alloc _⟩)
theorem v1e (L:Lays.n169 P ρ) (X:Builder.Extra P ρ) (b g cap:Nat) (p:Value) (w:World) (hc0:cap≠0) (hbk:w.heap[b]?=some (.cells #[p,.slice (some ⟨g,0,none⟩) 0 cap] (ρ.t 72) (0,0))) :
  Calls P (ρ.f 169) #[.pointer (some ⟨b,0,none⟩)] w fun e w'=>e = .returned (.string ⟨#[]⟩)∧Kp [] w w':=by
 have hUS:=Any.unsafeString_none L X
 have c1:w.drew.cell? ⟨b,1,none⟩=some (.slice (some ⟨g,0,none⟩) 0 cap):=by
  have:w.drew.heap[b]?=some (.cells #[p,.slice (some ⟨g,0,none⟩) 0 cap] (ρ.t 72) (0,0)):=hbk
  rw [Lib.cell_of_heap this]; rfl
 have hSD:(Builtin.unsafeSliceData_ #[(ρ.t 37)] (ρ.t 127) #[.slice (some ⟨g,0,none⟩) 0 cap]).run P w.drew = .ok (.pointer (some ⟨g,0,none⟩)) w.drew:=
  Lib.run_unsafeSliceData_row _ _ _ _ _ _ hc0
 clear hc0
 have mixed:=L.mixed
 have t72:=L.t72; have a72:=L.a72; have z72:=L.z72; have v72:=L.v72; have u72:=run_underlying L.t72
 have t70:=L.t70; have a70:=L.a70; have z70:=L.z70; have v70:=L.v70; have u70:=run_underlying L.t70
 have t37:=L.t37; have a37:=L.a37; have z37:=L.z37; have v37:=L.v37; have u37:=run_underlying L.t37
 have t127:=L.t127; have a127:=L.a127; have z127:=L.z127; have v127:=L.v127; have u127:=run_underlying L.t127
 have t3:=L.t3; have a3:=L.a3; have z3:=L.z3; have v3:=L.v3; have u3:=run_underlying L.t3
 have t9:=L.t9; have a9:=L.a9; have z9:=L.z9; have v9:=L.v9; have u9:=run_underlying L.t9
 have t5:=X.t5; have a5:=X.a5; have z5:=X.z5; have v5:=X.v5; have u5:=run_underlying X.t5
 go_enter L.f169,Body.n169_ntmps ρ
 go_wp2
 go_region_o
 all_goals (go_wp2; go_ret; exact ⟨rfl,y3o (Kp.refl _ w)⟩)
end
theorem z6a {l:List Int} (hl:byR l=true) {C:Int→List V} (hC:∀ n,C n=[vval (.int .u8 n)]):FnG Tryz.prog 21 [.ptr 0 0] [(0,.box (some 0) 60 [.nptr 0,.row 1 l.length]),(1,.row 5 1 (List.map C l))] (.dat (zr [vstr (strN l)])) []:=by
 refine ⟨by kernel_rfl,fun X A g w vs hw hm hsz hargs => ?_⟩
 subst hw
 obtain ⟨b,lv,q1,q0,q2,q3,q4⟩:=hm.ob 0 _ rfl
 obtain ⟨v,xs,p1,p2,p3,p4,p5⟩:=hm.ob 1 _ rfl
 obtain ⟨v0,hv0,b2,hb2,rfl⟩:=hargs 0 _ rfl
 rw [q1] at hb2
 cases hb2
 have hvs:vs = #[.pointer (some ⟨b,0,none⟩)]:=by
  have h1:vs.size=1:=hsz
  apply Array.ext
  ·simpa using h1
  ·intro i hi1 hi2
   have:i=0:=by omega
   subst this
   rw [Array.getElem?_eq_getElem hi1] at hv0
   simpa using hv0
 subst hvs
 obtain ⟨x0,s1,_,_⟩:=q4 0 _ rfl
 obtain ⟨x1,s2,s3,_⟩:=q4 1 _ rfl
 have s3:g.sv 1 l.length=some x1:=s3
 have p1:g.sv 1 (List.map C l).length=some v:=p1
 rw [List.length_map,s3] at p1
 have p1:=Option.some.inj p1
 subst p1
 have hlv:lv=[x0,x1]:=by
  rcases lv with _ | ⟨y0,_ | ⟨y1,_ | ⟨y2,lv⟩⟩⟩
  ·cases s1
  ·cases s2
  ·cases s1; cases s2; rfl
  ·simp at q3
 subst hlv
 rw [List.length_map] at p2
 have hmem:∀ S:List Nat,(∀ q,q∈S→x1.ownBlock=some q)→∀ w',Kp S X.w0 w'→∃ g',Mem X (ows (anL A [])) g' w':=fun S hS w' hk=>by
  refine ⟨⟨fun _=>none,fun _ _=>none⟩,⟨hk.os,hk.tape,hk.output,hk.size,fun k hk1 hk2=>hk.block k hk1 fun hk3 => ?_⟩,hm.m0,fun id o ho=>(by cases ho),fun id id' o o' b ho=>(by cases ho),fun id o b ho=>(by cases ho),fun id _=>⟨rfl,fun _=>rfl⟩,fun id e size es ho=>(by cases ho)⟩
  have:=hm.mine 1 _ k rfl (by show (g.sv 1 (List.map C l).length).bind Value.ownBlock=_; rw [List.length_map,s3]; exact hS k hk3)
  rcases this with h1 | h1
  ·exact hk2 h1
  ·omega
 have hstr:∀ (w':World) (g':Gh) (M:Blks),RepS g' w' M (.dat (zr [vstr (strN l)])) (.string ⟨(strN l).toArray⟩):=fun _ _ _=>rfl
 have hlen:(strN l).length=l.length:=by simp [strN]
 have fin:∀ (S:List Nat) (r:Value),r = .string ⟨(strN l).toArray⟩→(∀ q,q∈S→x1.ownBlock=some q)→∀ e w',(e=Ending.returned r∧Kp S X.w0 w')→∃ v g',e = .returned v∧Mem X (ows (anL A [])) g' w'∧RepS g' w' (Mof X g' (ows (anL A []))) (.dat (zr [vstr (strN l)])) v:=fun S r hr hS e w' ⟨h1,h2⟩=>by
  obtain ⟨g',h3⟩:=hmem S hS w' h2
  exact ⟨_,g',h1,h3,by rw [hr]; exact hstr _ _ _⟩
 have hemp:l.length=0→(Value.string ⟨#[]⟩) = .string ⟨(strN l).toArray⟩:=fun h=>by
  have:strN l=[]:=List.eq_nil_of_length_eq_zero (by rw [hlen]; exact h)
  rw [this]
 rcases p2.2 with ⟨rfl,hn⟩ | ⟨gb,cap,cur,rfl,_,hg,hnc,hcm,hcs,htake⟩
 ·exact (v1g { Tryz.lays169 with } { Tryz.Builder_Extra_169 with } b x0 X.w0 q2).mono (fin [] _ (hemp hn) (fun q h=>by cases h))
 ·by_cases hn:l.length=0
  ·rw [hn] at q2
   by_cases hc:cap=0
   ·subst hc
    exact (v1f { Tryz.lays169 with } { Tryz.Builder_Extra_169 with } b gb x0 cur X.w0 q2 hg).mono (fin [] _ (hemp hn) (fun q h=>by cases h))
   ·exact (v1e { Tryz.lays169 with } { Tryz.Builder_Extra_169 with } b gb cap x0 X.w0 hc q2).mono (fin [] _ (hemp hn) (fun q h=>by cases h))
  ·have hcs':cur.size=cap:=by simpa using hcs
   refine (v1d { Tryz.lays169 with } { Tryz.Builder_Extra_169 with } b gb cap x0 cur (strN l) X.w0 (fun h=>hn (by rw [← hlen,h]; rfl)) (by omega) hcm hcs' (by rw [hlen]; exact q2) hg fun j x hx => ?_).mono (fin [gb] _ rfl (fun q h=>by simp at h; subst h; rfl))
   unfold strN at hx
   rw [List.getElem?_map] at hx
   cases hq:l[j]? with
   | none=>rw [hq] at hx; cases hx
   | some n =>
    rw [hq] at hx
    cases hx
    have hb:=(List.all_eq_true.1 hl) n (List.mem_of_getElem? hq)
    have hb:0≤n∧n≤255:=by simpa using hb
    obtain ⟨y,r1,r2,_⟩:=p5 j 0 (C n) (vval (.int .u8 n)) (by rw [List.getElem?_map,hq]; rfl) (by rw [hC]; rfl)
    have r2:y = .int .u8 n:=r2
    have h5:=p2.cells (g:=gb) rfl j y (by simpa using r1)
    rw [h5,r2]
    have e1:((UInt8.ofNat n.toNat).toNat:Int)=n:=by
     rw [UInt8.toNat_ofNat']; omega
    rw [e1]
end Go.Proofs.YtahcnngcpjkpgabGreatDoor
