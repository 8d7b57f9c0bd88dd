/- Bills: keys of maps, in order. -/
import Derived.Test.YtnnfdgngnoamoaaGreatDoorXbh1
import Derived.Test.YtnnfdgngnoamoaaGreatDoorKr
namespace Go.Proofs.YtnnfdgngnoamoaaGreatDoor
open Go.RowKit Go.ChangeMaps Go.MapKept
set_option linter.unusedVariables false
set_option maxRecDepth 100000
set_option maxHeartbeats 2000000
noncomputable abbrev wx:MT Bs (Option Nat):=⟨fun x=>vstr x,fun x => .string ⟨x.toArray⟩,fun x=>x.length≤1000000000,fun x=>vval (ptO x),ptO,none⟩
theorem Ze:TyG Tryz.prog 116 9 130 wx:=
 ⟨by kernel_rfl,Maps.string_keyed (by kernel_rfl),fun x hk=>⟨_,WideMaps.keyOf_string_mk (by kernel_rfl) (z3u hk)⟩,fun w=>by kernel_rfl,(fun a b h=>by simpa using h),(fun x w M v h=>h),(fun x w M v h=>h),(fun x w M=>Z),(fun x w M=>Z)⟩
theorem x2t {κ τ:Type} {T:MT κ (Option Nat)} {size:Nat} {C:τ→List V} {l:List (κ×τ)}:MpK T (vmpA T size C l) (l.map (·.1)):=by
 rintro w M v ⟨b,es,cl,f,h1,h2,h3,h4,_⟩
 refine ⟨b,es,cl,EPb f l,⟨h1,h2,h3⟩,h4,List.ext_getElem? fun i => ?_⟩
 rw [List.getElem?_map,Yo,Option.map_map,List.getElem?_map]; rfl
theorem w4j:y9w Tryz.prog 106 wm:=by
 intro b es cl L M l cap J W0 hE hg hp hc hY h0
 have hnt:Tryz.f106.ntmps=14:=Z
 refine callsIn_of_wp Tryz.func106 Z U ?_ Z
 rw [hnt]
 obtain ⟨hM0,hcp0⟩:=hc _ _ h0
 refine wpIn_seq (wpIn_mono (x1n (N:=14) hM0 (by simp) Z [(0,vval (yv l)),(1,qw [[vmpX b es cl]] 0 0)] ⟨by simp [yv,vval],by simpa using hcp0,U⟩ (Q:=fun e f own=>e = .normal∧f 0 = .dat (vval (yv l))∧f 5 = .dr 2 (vIt b es cl)∧own 2=some (some (.opq none (itO wm b es cl L none)))) fun X hN => ?_) ?_)
 ·exact zq hN Z (za (wy x6t Z Z Z) (zd (y47 2 uk hE Z) Z ⟨Z,Z,Z,Z⟩))
 rintro e a W1 ⟨X,f,own,g,k,hXw,hXM,rfl,e0,e5,eo⟩
 have t0:a.tmps.getD 0 undef=yv l:=by have:=k.fr 0; rw [e0] at this; exact this
 obtain ⟨r,o,q1,_,q2,q3⟩:=k.ob 2 _ eo
 have t5:a.tmps.getD 5 undef=PB r:=by
  have:=k.fr 5
  rw [e5] at this
  obtain ⟨r',p1,p2,_⟩:=this
  rw [q1] at p1; cases p1
  exact p2
 have hrW:W0.heap.size≤r:=by
  rcases k.mine 2 _ r eo q1 with h | h
  ·rw [hXw.2] at h; cases h
  ·rw [hXw.1] at h; exact h
 have hJ1:J L W1:=hg _ _ _ h0 (by have:=k.kp; rw [hXw.1,hXw.2] at this; exact this)
 have hN1:a.tmps.size=14:=k.n.trans hXM.1
 have hD1:a.defers=[]:=k.df.trans hXM.2
 refine wpIn_block (wpIn_loop_rounds (L.length+1) ?_)
 clear k e0 e5 eo q1 hcp0 h0
 suffices key:∀ n q a W o,q.length≤n→a.tmps.size=14→a.defers=[]→a.tmps.getD 0 undef=yv l→a.tmps.getD 5 undef=PB r→W.heap[r]?=some o→itO wm b es cl q none o→J q W→Code.roundsIn Fence.wide 0 Tryz.prog _ _ (n+1) a W from key _ L a W1 o (Nat.le_refl _) hN1 hD1 t0 t5 q2 q3 hJ1
 clear t0 t5 hN1 hD1 hJ1 q2 q3
 intro n
 induction n with
 | zero =>
  intro q a W o hq hN hD t0 t5 ho hi hJ
  have hq0:q=[]:=List.eq_nil_of_length_eq_zero (by omega)
  subst hq0
  obtain ⟨hM,hcp⟩:=hc _ _ hJ
  have hrel:=y26 (T:=wm) hM hM0 hcp hrW ho hi hN hD t0 t5
  rw [roundsIn_succ]
  refine wpIn_seq (wpIn_mono ((z6a (P:=Tryz.prog) (X:=itX M W r 14) (Q:=fun e f own=>e = .normal∧f 7 = .dat (zr false)) (N:=14) Z Z Z (z6b uk hE Z Z) ?_) _ _ _ hrel) ?_)
  ·rintro ⟨_ | ⟨j,p⟩,hj⟩
   ·exact za (qm Z Z) ⟨Z,Z⟩
   ·simp at hj
  rintro e a' W' ⟨f,own,g,k,rfl,e7⟩
  have t7:a'.tmps.getD 7 undef = .bool false:=by have:=k.fr 7; rw [e7] at this; exact this
  have hJ':=hp _ _ _ r o hJ ho (Wh hi) hrW k.kp
  exact wpIn_seq (wpIn_cond_false t7 (wpIn_exit ⟨k.df,_,results_none Z _ _ _,⟨_,Z⟩,hJ'⟩))
 | succ n ih =>
  intro q a W o hq hN hD t0 t5 ho hi hJ
  obtain ⟨hM,hcp⟩:=hc _ _ hJ
  have hrel:=y26 (T:=wm) hM hM0 hcp hrW ho hi hN hD t0 t5
  rw [roundsIn_succ]
  refine wpIn_seq (wpIn_mono ((z6a (P:=Tryz.prog) (X:=itX M W r 14) (Q:=fun e f own=>e = .normal∧((q=[]∧f 7 = .dat (zr false))∨∃ j p,q[j]?=some p∧f 7 = .dat (zr true)∧f 0 = .dat (vval (yv l))∧f 5 = .dr 1 (vIt b es cl)∧own 1=some (some (.opq (some r) (itO wm b es cl (q.eraseIdx j) (some p))))∧own 3=none)) (N:=14) Z Z Z (z6b uk hE Z Z) ?_) _ _ _ hrel) ?_)
  ·rintro ⟨_ | ⟨j,p⟩,hj⟩
   ·exact za (qm Z Z) ⟨Z,.inl ⟨hj,Z⟩⟩
   ·exact za (qm Z Z) ⟨Z,.inr ⟨j,p,hj,Z,Z,Z,Z,Z⟩⟩
  rintro e a1 Wa ⟨f,own,g,k,rfl,⟨rfl,e7⟩ | ⟨j,p,hj,e7,e0,e5,eo,e3⟩⟩
  ·have t7:a1.tmps.getD 7 undef = .bool false:=by have:=k.fr 7; rw [e7] at this; exact this
   have hJ':=hp _ _ _ r o hJ ho (Wh hi) hrW k.kp
   exact wpIn_seq (wpIn_cond_false t7 (wpIn_exit ⟨k.df,_,results_none Z _ _ _,⟨_,Z⟩,hJ'⟩))
  have t7:a1.tmps.getD 7 undef = .bool true:=by have:=k.fr 7; rw [e7] at this; exact this
  refine wpIn_seq (wpIn_cond_true t7 (wpIn_skip (wpIn_block (wpIn_seq ?_))))
  refine wpIn_mono ((show AWP Tryz.prog (itX M W r 14) _ (fun e f own=>e = .normal∧f 0 = .dat (vval (yv l))∧f 5 = .dr 1 (vIt b es cl)∧own 1=some (some (.opq (some r) (itO wm b es cl (q.eraseIdx j) (some p))))∧(∃ b0,own 3=some (some (.box b0 120 ((we p.1).map .dat))))∧f 3 = .ptr 3 0) f own from ?_) g a1 Wa k) ?_
  ·exact zq (N:=14) Z Z (ze (y01 uk hE e5) eo (za (qm Z Z) (zd (qf 3 z6i Z) (show upl own [] 3=none from e3) (zd (yz jv Z Z Z Z) Z ⟨Z,e0,e5,eo,⟨_,Z⟩,Z⟩))))
  rintro e a2 Wb ⟨f2,own2,g2,k2,rfl,d0,d5,do1,⟨b3,d3⟩,e3b⟩
  refine wpIn_seq (wpIn_region ?_)
  refine opsR (X:=itX M W r 14) Z (n:=2+2) Z (z3y (P:=Tryz.prog) (X:=itX M W r 14) Z [_,_] [_,_] 0 _ _ [] _ a2 Wb Z k2 (za (zg (.dat _) d0) (ze (yg jv e3b Z Z) d3 ?_)))
  intro g3 a3 Wc k3
  have c0:a3.tmps.getD 0 undef=yv l:=by
   have h:=(show RepS g3 Wc _ (f2 0) (a3.tmps.getD 0 undef) from k3.fr 0)
   rw [d0] at h; exact h
  have c10:a3.tmps.getD 10 undef=yv l:=by have:=k3.fr 10; exact this
  have c11:a3.tmps.getD 11 undef=wm.ck p.1:=uk.kin _ _ _ _ (k3.fr 11)
  have hob:=k3.ob 1 _ do1
  obtain ⟨r',o3,q1,q0,q2,q3⟩:=hob
  have hr':=q0 r Z
  subst hr'
  have c5:a3.tmps.getD 5 undef=PB r:=by
   have h:=(show RepS g3 Wc _ (f2 5) (a3.tmps.getD 5 undef) from k3.fr 5)
   rw [d5] at h
   obtain ⟨r',p1,p2,_⟩:=h
   rw [q1] at p1; cases p1
   exact p2
  have hN3:a3.tmps.size=14:=k3.n
  have hD3:a3.defers=[]:=k3.df
  have hJ3:=hp _ _ _ r o hJ ho (Wh hi) hrW k3.kp
  have hi3:=y27 _ q3
  obtain ⟨fn,tm,asg,bdy,hrun,hR⟩:=hY q j p Wc hj hJ3
  show wpOpsIn Fence.wide 0 Tryz.prog _ _ [2,3] a3 Wc
  refine y0c Z Z Z c10 (by simp [Act.eval,c11]) hrun (hR.mono ?_)
  rintro e W3 ⟨rfl,hJ4,hkp⟩
  refine ⟨_,Z,?_⟩
  obtain ⟨a4,ha4⟩:∃ a4:Act,a4=a3.put (some 12) (.bool true):=⟨_,rfl⟩
  show wpOpsIn Fence.wide 0 Tryz.prog _ _ [3] (a3.put (some 12) (.bool true)) W3
  rw [← ha4]
  have g4:∀ t,a4.tmps.getD t undef=if t=12 then .bool true else a3.tmps.getD t undef:=fun t=>by rw [ha4]; exact Za hN3 (by decide) t
  have hN4:a4.tmps.size=14:=by rw [ha4]; simpa [Act.put] using hN3
  have hD4:a4.defers=[]:=by rw [ha4]; exact hD3
  have v12:a4.tmps.getD 12 undef = .bool true:=by rw [g4,if_pos Z]
  rw [wpOpsIn_cons]
  unfold wpOpIn
  refine ⟨fun _ _=>U,?_⟩
  have hrun:∀ o:Oper,o.op = .unOp .not 4 (.tmp 12)→(o.semAt Fence.wide.round a4.eval).run Tryz.prog W3 = .ok (.value (.bool false)) W3:=fun o ho=>by
   rw [Oper.semAt_eq Fence.wide.round a4.eval o (fun c hc=>by rw [ho] at hc; cases hc)]
   have h1:a4.eval (.tmp 12) = .bool true:=v12
   simp only [execOp,ho,h1,Op.unary]
   rfl
  rw [hrun _ Z,Oper.uponIn_value]
  have g5:∀ t,(a4.put (some 13) (.bool false)).tmps.getD t undef=if t=13 then .bool false else a4.tmps.getD t undef:=fun t=>by rw [show (a4.put (some 13) (.bool false)).tmps=a4.tmps.setIfInBounds 13 (.bool false) from Z,Za hN4 (by decide)]
  have t13:(a4.put (some 13) (.bool false)).tmps.getD 13 undef = .bool false:=by rw [g5,if_pos Z]
  refine wpIn_cond_false t13 (wpIn_skip ?_)
  have hlen:(q.eraseIdx j).length < q.length:=z9t hj
  exact ih (q.eraseIdx j) _ W3 o3 (by omega) (by simpa [Act.put] using hN4) hD4 ((g5 0).trans (by rw [if_neg (by decide),g4,if_neg (by decide)]; exact c0)) ((g5 5).trans (by rw [if_neg (by decide),g4,if_neg (by decide)]; exact c5)) (hkp r o3 q2 (Wh hi3)) hi3 hJ4
theorem w39 {u:V} (h1:u.one=true):Fn Tryz.prog 63 [u] (yc [vfn 106 [qw [[u]] 0 0]]):=by
 refine ⟨by kernel_rfl,yl (us:=[vfn 106 [qw [[u]] 0 0]]) Tryz.func63 Z Z Z Z fun X hN => ?_⟩
 exact zc hN Z (zd (Yu 1 Z h1) Z (qe Z (zf (z1c 1 [u] Z Z (zq hN Z (za (z0j (us:=[_]) ⟨Z,U⟩) (qe Z (zn ⟨U,.inl Z,U⟩))))))))
theorem w4b {u:V} {ks:List zu} (hu:MpK wm u ks) (hl:ks.length≤1000000000):FnK Tryz.prog 146 [vnil,vfn 106 [qw [[u]] 0 0]] 120 2 (fun i:{ p:List zu // p.Perm ks }=>i.1.map we):=by
 refine y31 (t:=4) (by kernel_rfl) Tryz.func146 Z Z Z Z fun X hN hR => ?_
 refine x5a hR (zq hN Z (zd (Yu 1 Z Z) Z (qe Z (x5b hR (zq hN Z (qd Z ⟨Z,?_⟩))))))
 refine x1y 1 0 2 120 2 Z Z Z Z (x3f (T:=wm) (s0:=([]:List zu)) (Iv:=fun q s=>(s++q.map (·.1)).Perm ks) hR hN [(2,.ptr 1 0),(6,.dat (vfn 106 [qw [[u]] 0 0]))] [(1,.box none 117 [.row 2 0]),(2,.row 120 2 [])] (fun s=>[(1,.box none 117 [.row 2 s.length]),(2,.row 120 2 (s.map we))]) (fun k w M=>uk.kin2 k w M) w4j hu (enters_of Tryz.func106 (by kernel_rfl) Z) Z (fun L h=>by rw [List.nil_append,h]) ⟨Z,Z,U⟩ ⟨Z,Z,U⟩ Z Z (fun _=>Z) (fun _=>Z) (fun _ _=>Z) (fun _ _=>Z) (fun _=>Z) (fun _=>Z) (by decide) ?_ ?_)
 ·intro A X p q j s hN hI hj
  refine zq hN Z (zd (qf 3 z6i Z) Z (zd (yz jv Z Z Z Z) Z ⟨Z,[(2,.ptr 1 0),(5,.ptr 3 0)],[(1,.box (some (A 1)) 117 [.row 2 s.length]),(2,.row 120 2 (s.map we)),(3,.box none 120 ((we p.1).map .dat))],⟨Z,Z,U⟩,⟨Z,Z,Z,U⟩,Z,Z,Z,fun X hN => ?_⟩))
  refine yd (zq hN Z (ze (zl y4t Z Z) Z (ze (yg jv Z Z Z) Z (za (yf (u':=vlst (List.map we [p.1])) (qa [_] x0f ⟨Z,.inr Z,Z,U⟩ Z Z) Z) ?_))))
  have hps:=hI.length_eq
  have hpl:s.length+1≤1000000000:=by
   have h2:=(List.getElem?_eq_some_iff.1 hj).1
   simp only [List.length_append,List.length_map] at hps
   omega
  refine zd (je x0f (fun _=>Z) Z Z Z ⟨by simp,by simpa using hpl⟩ Z) Z ?_
  refine Ye (Yc y4t Z Z (by rw [List.length_map]) Z) Z Z ?_
  exact ⟨s++[p.1],x2j hI hj,Z,Z,U⟩
 ·intro A X s hN hR hI
  exact zc hN rfl (ze (zl y4t rfl rfl) rfl (za (qy (.row _ _) rfl) (zn ⟨.inr rfl,[(4,.row 2 s.length)],[(2,.row 120 2 (s.map we))],⟨rfl,trivial⟩,⟨rfl,trivial⟩,rfl,rfl,⟨s,by simpa using hI⟩,2,by rw [List.length_map]; rfl,rfl⟩)))
theorem w4a {u:V} {ks:List zu} (hu:MpK wm u ks) (hl:ks.length≤1000000000):FnK Tryz.prog 104 [vfn 106 [qw [[u]] 0 0]] 120 2 (fun i:{ p:List zu // p.Perm ks }=>i.1.map we):=by
 refine y31 (t:=2) (by kernel_rfl) Tryz.func104 Z Z Z Z fun X hN hR => ?_
 refine x5c hR (zc hN Z (qe Z (zf (z90 (ι:={ p:List zu // p.Perm ks }) hN (os1:=[_]) (os2:=[_]) Z Z Z (qd Z ⟨_,_,_,y02 1 (w4b hu hl) ⟨.inl Z,.inl Z,U⟩,fun q hq=>(by rw [List.mem_singleton.1 hq]),fun b k hk=>hk,fun i => ?_⟩)))))
 exact za (qy (.row _ _) Z) (zn ⟨.inr Z,[(2,.row 1 (i.1.map we).length)],[(1,.row 120 2 (i.1.map we))],⟨Z,U⟩,⟨Z,U⟩,Z,Z,i,1,Z,Z⟩)
theorem w4i:y9w Tryz.prog 112 wx:=by
 intro b es cl L M l cap J W0 hE hg hp hc hY h0
 have hnt:Tryz.f112.ntmps=14:=Z
 refine callsIn_of_wp Tryz.func112 Z U ?_ Z
 rw [hnt]
 obtain ⟨hM0,hcp0⟩:=hc _ _ h0
 refine wpIn_seq (wpIn_mono (x1n (N:=14) hM0 (by simp) Z [(0,vval (yv l)),(1,qw [[vmpX b es cl]] 0 0)] ⟨by simp [yv,vval],by simpa using hcp0,U⟩ (Q:=fun e f own=>e = .normal∧f 0 = .dat (vval (yv l))∧f 5 = .dr 2 (vIt b es cl)∧own 2=some (some (.opq none (itO wx b es cl L none)))) fun X hN => ?_) ?_)
 ·exact zq hN Z (za (wy x6s Z Z Z) (zd (y47 2 Ze hE Z) Z ⟨Z,Z,Z,Z⟩))
 rintro e a W1 ⟨X,f,own,g,k,hXw,hXM,rfl,e0,e5,eo⟩
 have t0:a.tmps.getD 0 undef=yv l:=by have:=k.fr 0; rw [e0] at this; exact this
 obtain ⟨r,o,q1,_,q2,q3⟩:=k.ob 2 _ eo
 have t5:a.tmps.getD 5 undef=PB r:=by
  have:=k.fr 5
  rw [e5] at this
  obtain ⟨r',p1,p2,_⟩:=this
  rw [q1] at p1; cases p1
  exact p2
 have hrW:W0.heap.size≤r:=by
  rcases k.mine 2 _ r eo q1 with h | h
  ·rw [hXw.2] at h; cases h
  ·rw [hXw.1] at h; exact h
 have hJ1:J L W1:=hg _ _ _ h0 (by have:=k.kp; rw [hXw.1,hXw.2] at this; exact this)
 have hN1:a.tmps.size=14:=k.n.trans hXM.1
 have hD1:a.defers=[]:=k.df.trans hXM.2
 refine wpIn_block (wpIn_loop_rounds (L.length+1) ?_)
 clear k e0 e5 eo q1 hcp0 h0
 suffices key:∀ n q a W o,q.length≤n→a.tmps.size=14→a.defers=[]→a.tmps.getD 0 undef=yv l→a.tmps.getD 5 undef=PB r→W.heap[r]?=some o→itO wx b es cl q none o→J q W→Code.roundsIn Fence.wide 0 Tryz.prog _ _ (n+1) a W from key _ L a W1 o (Nat.le_refl _) hN1 hD1 t0 t5 q2 q3 hJ1
 clear t0 t5 hN1 hD1 hJ1 q2 q3
 intro n
 induction n with
 | zero =>
  intro q a W o hq hN hD t0 t5 ho hi hJ
  have hq0:q=[]:=List.eq_nil_of_length_eq_zero (by omega)
  subst hq0
  obtain ⟨hM,hcp⟩:=hc _ _ hJ
  have hrel:=y26 (T:=wx) hM hM0 hcp hrW ho hi hN hD t0 t5
  rw [roundsIn_succ]
  refine wpIn_seq (wpIn_mono ((z6a (P:=Tryz.prog) (X:=itX M W r 14) (Q:=fun e f own=>e = .normal∧f 7 = .dat (zr false)) (N:=14) Z Z Z (z6b Ze hE Z Z) ?_) _ _ _ hrel) ?_)
  ·rintro ⟨_ | ⟨j,p⟩,hj⟩
   ·exact za (qm Z Z) ⟨Z,Z⟩
   ·simp at hj
  rintro e a' W' ⟨f,own,g,k,rfl,e7⟩
  have t7:a'.tmps.getD 7 undef = .bool false:=by have:=k.fr 7; rw [e7] at this; exact this
  have hJ':=hp _ _ _ r o hJ ho (Wh hi) hrW k.kp
  exact wpIn_seq (wpIn_cond_false t7 (wpIn_exit ⟨k.df,_,results_none Z _ _ _,⟨_,Z⟩,hJ'⟩))
 | succ n ih =>
  intro q a W o hq hN hD t0 t5 ho hi hJ
  obtain ⟨hM,hcp⟩:=hc _ _ hJ
  have hrel:=y26 (T:=wx) hM hM0 hcp hrW ho hi hN hD t0 t5
  rw [roundsIn_succ]
  refine wpIn_seq (wpIn_mono ((z6a (P:=Tryz.prog) (X:=itX M W r 14) (Q:=fun e f own=>e = .normal∧((q=[]∧f 7 = .dat (zr false))∨∃ j p,q[j]?=some p∧f 7 = .dat (zr true)∧f 0 = .dat (vval (yv l))∧f 5 = .dr 1 (vIt b es cl)∧own 1=some (some (.opq (some r) (itO wx b es cl (q.eraseIdx j) (some p))))∧own 3=none)) (N:=14) Z Z Z (z6b Ze hE Z Z) ?_) _ _ _ hrel) ?_)
  ·rintro ⟨_ | ⟨j,p⟩,hj⟩
   ·exact za (qm Z Z) ⟨Z,.inl ⟨hj,Z⟩⟩
   ·exact za (qm Z Z) ⟨Z,.inr ⟨j,p,hj,Z,Z,Z,Z,Z⟩⟩
  rintro e a1 Wa ⟨f,own,g,k,rfl,⟨rfl,e7⟩ | ⟨j,p,hj,e7,e0,e5,eo,e3⟩⟩
  ·have t7:a1.tmps.getD 7 undef = .bool false:=by have:=k.fr 7; rw [e7] at this; exact this
   have hJ':=hp _ _ _ r o hJ ho (Wh hi) hrW k.kp
   exact wpIn_seq (wpIn_cond_false t7 (wpIn_exit ⟨k.df,_,results_none Z _ _ _,⟨_,Z⟩,hJ'⟩))
  have t7:a1.tmps.getD 7 undef = .bool true:=by have:=k.fr 7; rw [e7] at this; exact this
  refine wpIn_seq (wpIn_cond_true t7 (wpIn_skip (wpIn_block (wpIn_seq ?_))))
  refine wpIn_mono ((show AWP Tryz.prog (itX M W r 14) _ (fun e f own=>e = .normal∧f 0 = .dat (vval (yv l))∧f 5 = .dr 1 (vIt b es cl)∧own 1=some (some (.opq (some r) (itO wx b es cl (q.eraseIdx j) (some p))))∧f 3 = .dat (wx.kV p.1)) f own from ?_) g a1 Wa k) ?_
  ·exact zq (N:=14) Z Z (ze (y01 Ze hE e5) eo (za (qm Z Z) (qe Z ⟨Z,e0,e5,eo,Z⟩)))
  rintro e a2 Wb ⟨f2,own2,g2,k2,rfl,d0,d5,do1,e3b⟩
  refine wpIn_seq (wpIn_region ?_)
  refine opsR (X:=itX M W r 14) Z (n:=2+2) Z (z3y (P:=Tryz.prog) (X:=itX M W r 14) Z [_,_] [_,_] 0 _ _ [] _ a2 Wb Z k2 (za (zg (.dat _) d0) (za (zg (.dat _) e3b) ?_)))
  intro g3 a3 Wc k3
  have c0:a3.tmps.getD 0 undef=yv l:=by
   have h:=(show RepS g3 Wc _ (f2 0) (a3.tmps.getD 0 undef) from k3.fr 0)
   rw [d0] at h; exact h
  have c10:a3.tmps.getD 10 undef=yv l:=by have:=k3.fr 10; exact this
  have c11:a3.tmps.getD 11 undef=wx.ck p.1:=Ze.kin _ _ _ _ (k3.fr 11)
  have hob:=k3.ob 1 _ do1
  obtain ⟨r',o3,q1,q0,q2,q3⟩:=hob
  have hr':=q0 r Z
  subst hr'
  have c5:a3.tmps.getD 5 undef=PB r:=by
   have h:=(show RepS g3 Wc _ (f2 5) (a3.tmps.getD 5 undef) from k3.fr 5)
   rw [d5] at h
   obtain ⟨r',p1,p2,_⟩:=h
   rw [q1] at p1; cases p1
   exact p2
  have hN3:a3.tmps.size=14:=k3.n
  have hD3:a3.defers=[]:=k3.df
  have hJ3:=hp _ _ _ r o hJ ho (Wh hi) hrW k3.kp
  have hi3:=y27 _ q3
  obtain ⟨fn,tm,asg,bdy,hrun,hR⟩:=hY q j p Wc hj hJ3
  show wpOpsIn Fence.wide 0 Tryz.prog _ _ [2,3] a3 Wc
  refine y0c Z Z Z c10 (by simp [Act.eval,c11]) hrun (hR.mono ?_)
  rintro e W3 ⟨rfl,hJ4,hkp⟩
  refine ⟨_,Z,?_⟩
  obtain ⟨a4,ha4⟩:∃ a4:Act,a4=a3.put (some 12) (.bool true):=⟨_,rfl⟩
  show wpOpsIn Fence.wide 0 Tryz.prog _ _ [3] (a3.put (some 12) (.bool true)) W3
  rw [← ha4]
  have g4:∀ t,a4.tmps.getD t undef=if t=12 then .bool true else a3.tmps.getD t undef:=fun t=>by rw [ha4]; exact Za hN3 (by decide) t
  have hN4:a4.tmps.size=14:=by rw [ha4]; simpa [Act.put] using hN3
  have hD4:a4.defers=[]:=by rw [ha4]; exact hD3
  have v12:a4.tmps.getD 12 undef = .bool true:=by rw [g4,if_pos Z]
  rw [wpOpsIn_cons]
  unfold wpOpIn
  refine ⟨fun _ _=>U,?_⟩
  have hrun:∀ o:Oper,o.op = .unOp .not 4 (.tmp 12)→(o.semAt Fence.wide.round a4.eval).run Tryz.prog W3 = .ok (.value (.bool false)) W3:=fun o ho=>by
   rw [Oper.semAt_eq Fence.wide.round a4.eval o (fun c hc=>by rw [ho] at hc; cases hc)]
   have h1:a4.eval (.tmp 12) = .bool true:=v12
   simp only [execOp,ho,h1,Op.unary]
   rfl
  rw [hrun _ Z,Oper.uponIn_value]
  have g5:∀ t,(a4.put (some 13) (.bool false)).tmps.getD t undef=if t=13 then .bool false else a4.tmps.getD t undef:=fun t=>by rw [show (a4.put (some 13) (.bool false)).tmps=a4.tmps.setIfInBounds 13 (.bool false) from Z,Za hN4 (by decide)]
  have t13:(a4.put (some 13) (.bool false)).tmps.getD 13 undef = .bool false:=by rw [g5,if_pos Z]
  refine wpIn_cond_false t13 (wpIn_skip ?_)
  have hlen:(q.eraseIdx j).length < q.length:=z9t hj
  exact ih (q.eraseIdx j) _ W3 o3 (by omega) (by simpa [Act.put] using hN4) hD4 ((g5 0).trans (by rw [if_neg (by decide),g4,if_neg (by decide)]; exact c0)) ((g5 5).trans (by rw [if_neg (by decide),g4,if_neg (by decide)]; exact c5)) (hkp r o3 q2 (Wh hi3)) hi3 hJ4
theorem w23 {u:V} (h1:u.one=true):Fn Tryz.prog 70 [u] (yc [vfn 112 [qw [[u]] 0 0]]):=by
 refine ⟨by kernel_rfl,yl (us:=[vfn 112 [qw [[u]] 0 0]]) Tryz.func70 Z Z Z Z fun X hN => ?_⟩
 exact zc hN Z (zd (Yu 1 Z h1) Z (qe Z (zf (z1c 1 [u] Z Z (zq hN Z (za (z0j (us:=[_]) ⟨Z,U⟩) (qe Z (zn ⟨U,.inl Z,U⟩))))))))
theorem w25 {u:V} {ks:List Bs} (hu:MpK wx u ks) (hl:ks.length≤1000000000):FnK Tryz.prog 148 [vnil,vfn 112 [qw [[u]] 0 0]] 9 1 (fun i:{ p:List Bs // p.Perm ks }=>i.1.map yr):=by
 refine y31 (t:=4) (by kernel_rfl) Tryz.func148 Z Z Z Z fun X hN hR => ?_
 refine x5a hR (zq hN Z (zd (Yu 1 Z Z) Z (qe Z (x5b hR (zq hN Z (qd Z ⟨Z,?_⟩))))))
 refine x1y 1 0 2 9 1 Z Z Z Z (x3f (T:=wx) (s0:=([]:List Bs)) (Iv:=fun q s=>(s++q.map (·.1)).Perm ks) hR hN [(2,.ptr 1 0),(6,.dat (vfn 112 [qw [[u]] 0 0]))] [(1,.box none 77 [.row 2 0]),(2,.row 9 1 [])] (fun s=>[(1,.box none 77 [.row 2 s.length]),(2,.row 9 1 (s.map yr))]) (fun k w M=>Ze.kin2 k w M) w4i hu (enters_of Tryz.func112 (by kernel_rfl) Z) Z (fun L h=>by rw [List.nil_append,h]) ⟨Z,Z,U⟩ ⟨Z,Z,U⟩ Z Z (fun _=>Z) (fun _=>Z) (fun _ _=>Z) (fun _ _=>Z) (fun _=>Z) (fun _=>Z) (by decide) ?_ ?_)
 ·intro A X p q j s hN hI hj
  refine zq hN Z (qe Z ⟨Z,[(2,.ptr 1 0),(5,.dat (wx.kV p.1))],[(1,.box (some (A 1)) 77 [.row 2 s.length]),(2,.row 9 1 (s.map yr))],⟨Z,Z,U⟩,⟨Z,Z,U⟩,Z,Z,Z,fun X hN => ?_⟩)
  refine yd (zq hN Z (ze (zl z6l Z Z) Z (qd Z (za (yf (u':=vlst (List.map yr [p.1])) (qa [[_]] vh ⟨Z,.inl ⟨_,Z,Z,Z⟩,Z,U⟩ Z Z) Z) ?_))))
  have hps:=hI.length_eq
  have hpl:s.length+1≤1000000000:=by
   have h2:=(List.getElem?_eq_some_iff.1 hj).1
   simp only [List.length_append,List.length_map] at hps
   omega
  refine zd (je vh (fun _=>Z) Z Z Z ⟨by simp,by simpa using hpl⟩ Z) Z ?_
  refine Ye (Yc z6l Z Z (by rw [List.length_map]) Z) Z Z ?_
  exact ⟨s++[p.1],x2j hI hj,Z,Z,U⟩
 ·intro A X s hN hR hI
  exact zc hN rfl (ze (zl z6l rfl rfl) rfl (za (qy (.row _ _) rfl) (zn ⟨.inr rfl,[(4,.row 2 s.length)],[(2,.row 9 1 (s.map yr))],⟨rfl,trivial⟩,⟨rfl,trivial⟩,rfl,rfl,⟨s,by simpa using hI⟩,2,by rw [List.length_map]; rfl,rfl⟩)))
theorem w24 {u:V} {ks:List Bs} (hu:MpK wx u ks) (hl:ks.length≤1000000000):FnK Tryz.prog 110 [vfn 112 [qw [[u]] 0 0]] 9 1 (fun i:{ p:List Bs // p.Perm ks }=>i.1.map yr):=by
 refine y31 (t:=2) (by kernel_rfl) Tryz.func110 Z Z Z Z fun X hN hR => ?_
 refine x5c hR (zc hN Z (qe Z (zf (z90 (ι:={ p:List Bs // p.Perm ks }) hN (os1:=[_]) (os2:=[_]) Z Z Z (qd Z ⟨_,_,_,y02 1 (w25 hu hl) ⟨.inl Z,.inl Z,U⟩,fun q hq=>(by rw [List.mem_singleton.1 hq]),fun b k hk=>hk,fun i => ?_⟩)))))
 exact za (qy (.row _ _) Z) (zn ⟨.inr Z,[(2,.row 1 (i.1.map yr).length)],[(1,.row 9 1 (i.1.map yr))],⟨Z,U⟩,⟨Z,U⟩,Z,Z,i,1,Z,Z⟩)
theorem w1n (l r:List Bs) (H:z2a l=some r):FnG Tryz.prog 111 [.row 0 l.length] [(0,.rowA undef 9 1 (List.map yr l))] (.dat (yc [])) [(0,.rowA undef 9 1 (List.map yr r))]:=by
 obtain ⟨hl,hr⟩:=x1c H
 refine w5l (fun s:Bs=>Value.string ⟨s.toArray⟩) r l (x8x H) (by kernel_rfl) (fun _=>Z) (fun blk cap w hH hb => ?_) (fun h w => ?_)
 ·rw [hr]; exact Tryz.slices_Sort_string blk 0 cap l w hH hb (by omega)
 ·exact Tryz.slices_Sort_string_none none 0 w
theorem x8w {l r:List Bs} (h:z2a l=some r):r=l.mergeSort fun x y=>decide (x≤y):=by
 obtain ⟨_,h⟩:=gif h
 exact (Option.some.inj h).symm

theorem w4e {u:V} {ks:List zu} (hu:MpK wm u ks) (hl:ks.length≤1000000000) (p1:zu→zu→Option Int) (fv1:Nat) (us1:List V) (hp1:∀ a0 a1 r,p1 a0 a1=some r→Fn Tryz.prog fv1 ([vagg (we a0),vagg (we a1)]++us1) (yc [vint r])) (r:List zu) (H:srtA p1 ks=some r) :
  Fn Tryz.prog 62 [vfn 106 [qw [[u]] 0 0],vfn fv1 us1] (yc [vlst (r.map we)]):=by
 refine ⟨by kernel_rfl,yl (us:=[vlst (r.map we)]) Tryz.func62 Z Z Z Z fun X hN => ?_⟩
 refine zc hN Z (qe Z (zf (z90 (ι:={ p:List zu // p.Perm ks }) hN (os1:=[_]) (os2:=[_]) Z Z Z (qd Z ⟨_,_,_,y02 1 (w4a hu hl) ⟨.inl Z,U⟩,fun q hq=>(by rw [List.mem_singleton.1 hq]),fun b k hk=>hk,fun i => ?_⟩))))
 refine za (qy (.row _ _) Z) ?_
 obtain ⟨r0,h0,H0⟩:=bnd (y9o H i.1 i.2)
 obtain ⟨hlen,H0⟩:=gif H0
 cases H0
 refine zc hN Z (za (zg (.row _ _) Z) (qd Z (ue (rn [(0,1)]) [(0,_,_,some _)] [] (w1p i.1 p1 fv1 us1 hp1 r h0) ⟨Z,U⟩ ⟨.inl (.inl (show Slot.row 1 (i.1.map we).length=Slot.row 1 i.1.length by rw [List.length_map])),.inl (.inl Z),U⟩ ⟨⟨⟨Z,Z,Z⟩,by simp [uc,hlen]⟩,U⟩ Z ?_)))
 exact zc hN Z (za (zg (.row _ _) Z) (za (qy (.row _ _) Z) (zn ⟨U,xn Z (by rw [List.length_map]; exact hlen.symm),U⟩)))
theorem w4d {u:V} {ks:List Bs} (hu:MpK wx u ks) (hl:ks.length≤1000000000) (r:List Bs) (H:srtS ks=some r) :
  Fn Tryz.prog 69 [vfn 112 [qw [[u]] 0 0]] (yc [vlst (r.map yr)]):=by
 refine ⟨by kernel_rfl,yl (us:=[vlst (r.map yr)]) Tryz.func69 Z Z Z Z fun X hN => ?_⟩
 refine zc hN Z (qe Z (zf (z90 (ι:={ p:List Bs // p.Perm ks }) hN (os1:=[_]) (os2:=[_]) Z Z Z (qd Z ⟨_,_,_,y02 1 (w24 hu hl) ⟨.inl Z,U⟩,fun q hq=>(by rw [List.mem_singleton.1 hq]),fun b k hk=>hk,fun i => ?_⟩))))
 refine za (qy (.row _ _) Z) ?_
 have h0:=y9o H i.1 i.2
 have hlen:r.length=i.1.length:=by rw [(x8w h0)]; simp
 refine zc hN Z (za (zg (.row _ _) Z) (ue (rn [(0,1)]) [(0,_,_,some _)] [] (w1n i.1 r h0) ⟨Z,U⟩ ⟨.inl (.inl (show Slot.row 1 (i.1.map yr).length=Slot.row 1 i.1.length by rw [List.length_map])),U⟩ ⟨⟨⟨Z,Z,Z⟩,by simp [uc,hlen]⟩,U⟩ Z ?_))
 exact zc hN Z (za (zg (.row _ _) Z) (za (qy (.row _ _) Z) (zn ⟨U,xn Z (by rw [List.length_map]; exact hlen.symm),U⟩)))
end Go.Proofs.YtnnfdgngnoamoaaGreatDoor
