/- Walks along the models. Printed by a program. -/
import Derived.Test.YtnnfdgngnoamoaaGreatDoorXbw2
namespace Go.Proofs.YtnnfdgngnoamoaaGreatDoor
open Go.RowKit
set_option linter.unusedVariables false
set_option maxRecDepth 100000
set_option maxHeartbeats 2000000
theorem x3j (l:List zw):Fn Tryz.prog 119 [vlst (List.map qq l)] (yc [vfn 153 [qw [[vlst (List.map qq l)]] 0 0]]):=by
 refine ⟨by kernel_rfl,yl (us:=[vfn 153 [qw [[vlst (List.map qq l)]] 0 0]]) Tryz.func119 Z Z Z Z fun X hN => ?_⟩
 exact zc hN Z (zd (Yu 1 Z Z) Z (qe Z (zf (z1c 1 [vlst (List.map qq l)] Z Z (zq hN Z (za (z0j (us:=[_]) ⟨Z,U⟩) (qe Z (zn ⟨U,.inl Z,U⟩))))))))
theorem x3z:y9y Tryz.prog 153 4 false:=by
 intro vals M l cap J Jx W hn hvn hk hc hY h0
 have hnt:Tryz.f153.ntmps=19:=Z
 refine callsIn_of_wp Tryz.func153 Z U ?_ Z
 rw [hnt]
 obtain ⟨vc,hvc⟩:∃ vc:V,vc=vand (qw [[vlst (vals.map fun c=>c.map vval)]] 0 0) cap:=⟨_,rfl⟩
 have hwk:Wk vc (qw [[vlst (vals.map fun c=>c.map vval)]] 0 0):=by rw [hvc]; exact y92 _ _
 have hvm:∀ W',(qw [[vlst (vals.map fun c=>c.map vval)]] 0 0).p W' M cap→vc.p W' M cap:=fun W' h=>by rw [hvc]; exact ⟨Z,h⟩
 have hvo:∀ W' M' v,vc.p W' M' v→v=cap:=fun W' M' v h=>by rw [hvc] at h; exact h.1
 obtain ⟨hM,hcp⟩:=hc _ _ h0
 refine wpIn_seq (wpIn_mono (z0m (N:=19) hM ?hN ?hD [(0,vval (yv l)),(1,vc)] ?hr (Q:=fun e f=>e = .normal∧f 0 = .dat (vval (yv l))∧f 1 = .dat vc∧f 3 = .dat (vint ((vals.length:Int) - 1))) fun X hN => ?_) ?_)
 case hN=>simp
 case hD=>rfl
 case hr=>exact ⟨by simp [yv,vval],by simpa using hvm _ hcp,trivial⟩
 ·exact zq hN Z (za (y0z z3n Z hwk Z Z) (za (yu (C:=fun c:List Value=>c.map vval) z6k Z) (za (Yb Z Z (by omega)) (qe Z ⟨Z,Z,Z,Z⟩))))
 rintro e a W1 ⟨hk1,hN,hD,f,own,g,M',hfr,rfl,e0,e1,e3⟩
 have t0:a.tmps.getD 0 undef=yv l:=by have:=hfr 0; rw [e0] at this; exact this
 have t1:a.tmps.getD 1 undef=cap:=by have:=hfr 1; rw [e1] at this; exact hvo _ _ _ this
 have t3:a.tmps.getD 3 undef = .int .i64 ((vals.length:Int) - 1):=by have:=hfr 3; rw [e3] at this; exact this
 refine wpIn_block (wpIn_loop_rounds (vals.length+1) ?_)
 have hJ1:=hk _ _ _ h0 hk1
 clear hk1 hfr e0 e1 e3 hcp hM h0
 suffices key:∀ m,m≤vals.length→∀ a W,a.tmps.size=19→a.defers=[]→a.tmps.getD 0 undef=yv l→a.tmps.getD 1 undef=cap→a.tmps.getD 3 undef = .int .i64 ((m:Int) - 1)→J m W→Code.roundsIn Fence.wide 0 Tryz.prog _ _ (m+1) a W from key _ (Nat.le_refl _) a W1 hN hD t0 t1 t3 hJ1
 clear t0 t1 t3 hN hD hJ1
 intro m
 induction m with
 | zero =>
  intro _ a W hN hD t0 t1 t3 hJ
  obtain ⟨hM,hcp⟩:=hc _ _ hJ
  rw [roundsIn_succ]
  refine wpIn_seq (wpIn_seq (wpIn_mono (z0m (N:=19) hM hN hD [(3,vint (-1))] ⟨by rw [t3]; rfl,trivial⟩ (Q:=fun e f=>e = .normal∧f 8 = .dat (zr (decide ((0:Int)≤-1)))) fun X hN => ?_) ?_))
  ·exact zq hN Z (qd Z (za (jn Z Z) ⟨Z,Z⟩))
  rintro e a' W' ⟨hk1,hN',hD',f,own,g,M',hfr,rfl,e8⟩
  have t8:a'.tmps.getD 8 undef = .bool false:=by have:=hfr 8; rw [e8] at this; exact this
  exact wpIn_cond_false t8 (wpIn_exit ⟨hD',_,results_none Z _ _ _,⟨_,Z⟩,.inl (hk _ _ _ hJ hk1)⟩)
 | succ m ih =>
  intro hm a W hN hD t0 t1 t3 hJ
  obtain ⟨hM,hcp⟩:=hc _ _ hJ
  have hm3:(((m+1:Nat):Int) - 1)=(m:Int):=by omega
  rw [hm3] at t3
  rw [roundsIn_succ]
  refine wpIn_seq (wpIn_seq (wpIn_mono (z0m (N:=19) hM hN hD [(0,vval (yv l)),(1,vc),(3,vint (m:Int))] ⟨t0,by rw [t1]; exact hvm _ hcp,by rw [t3]; rfl,trivial⟩ (Q:=fun e f=>e = .normal∧f 0 = .dat (vval (yv l))∧f 1 = .dat vc∧f 3 = .dat (vint (m:Int))∧f 8 = .dat (zr (decide ((0:Int)≤(m:Int))))) fun X hN => ?_) ?_))
  ·exact zq hN Z (qd Z (za (jn Z Z) ⟨Z,Z,Z,Z,Z⟩))
  rintro e a1 W1 ⟨hk1,hN1,hD1,f,own,g,M',hfr,rfl,e0,e1,e3,e8⟩
  have u0:a1.tmps.getD 0 undef=yv l:=by have:=hfr 0; rw [e0] at this; exact this
  have u1:a1.tmps.getD 1 undef=cap:=by have:=hfr 1; rw [e1] at this; exact hvo _ _ _ this
  have u3:a1.tmps.getD 3 undef = .int .i64 (m:Int):=by have:=hfr 3; rw [e3] at this; exact this
  have u8:a1.tmps.getD 8 undef = .bool true:=by
   have:=hfr 8; rw [e8,decide_eq_true (by omega)] at this; exact this
  refine wpIn_cond_true u8 (wpIn_skip ?_)
  have hJ1:=hk _ _ _ hJ hk1
  clear hfr e0 e1 e3 e8 hk1 hJ hM hcp t0 t1 t3 hN hD
  obtain ⟨hM1,hcp1⟩:=hc _ _ hJ1
  refine wpIn_seq (wpIn_block (wpIn_seq ?_))
  refine wpIn_region ?_
  obtain ⟨X,hX⟩:∃ X:Ctx,X=⟨fun b=>M b,W1,[],19,none,[]⟩:=⟨_,rfl⟩
  have hrel:Rel X (frs (datL [(0,vval (yv l)),(1,vc),(3,vint (m:Int))])) (fun _=>none) ⟨fun _=>none,fun _ _=>none⟩ a1 W1:=by
   subst hX
   have he:Ext M (Mof ⟨fun b=>M b,W1,[],19,none,[]⟩ ⟨fun _=>none,fun _ _=>none⟩ (fun _=>none)) W1 W1:=⟨Nat.le_refl _,fun _ _ _ _=>Z,fun b _ hb=>by
    rcases hb with hb | ⟨id,o,ho,_⟩
    ·exact hb
    ·cases ho⟩
   refine ⟨Kp.refl _ _,⟨fun b hb=>⟨hM1.1 b hb,by simp⟩,hM1.2.1,fun b hb=>⟨hM1.2.2 b hb,by simp⟩⟩,hN1,hD1,fun t=>z7h [(0,vval (yv l)),(1,vc),(3,vint (m:Int))] ⟨u0,by rw [u1]; exact vc.keep he (hvm _ hcp1),by rw [u3]; rfl,trivial⟩ t,fun id o ho=>(by cases ho),fun id _ o _ b ho=>(by cases ho),fun id o b ho=>(by cases ho),fun id _=>⟨rfl,fun _=>rfl⟩,fun id e size es h=>(by cases h)⟩
  have hNX:X.N=19:=by rw [hX]
  have hRX:X.R=none:=by rw [hX]
  have hDX:X.D=[]:=by rw [hX]
  have hKX:∀ W',Kp X.S0 X.w0 W'→Kp [] W1 W':=fun W' h=>by rw [hX] at h; exact h
  obtain ⟨el,hel⟩:∃ el,vals[m]?=some el:=⟨_,List.getElem?_eq_getElem (by omega)⟩
  have hell:(el.map vval).length=4:=by rw [List.length_map]; exact hvn el (List.mem_of_getElem? hel)
  have helm:(vals.map fun c=>c.map vval)[m]?=some (el.map vval):=by rw [List.getElem?_map,hel]; rfl
  have helD:vals.getD m []=el:=by rw [List.getD_eq_getElem?_getD,hel]; rfl
  clear hX
  refine opsR hRX (n:=6+2) rfl (z3y (P:=Tryz.prog) (X:=X) (by rw [hNX]; rfl) [_,_,_,_,_,_] [_,_] 0 _ _ [] _ a1 W1 rfl hrel ?_)
  refine qd Z (qd Z (za (y0z z3n Z hwk Z Z) (qd Z ?_)))
  refine za (y00 (k:=m) z6v Z Z (by rw [List.length_map]; omega) (fun c hc=>by
   obtain ⟨c',hc',rfl⟩:=List.mem_map.1 hc
   rw [List.length_map]; exact hvn c' hc')) ?_
  refine za (wo qh Z helm hell) ?_
  intro g2 a2 W2 k2
  have v0:a2.tmps.getD 0 undef=yv l:=k2.fr 0
  have v1:a2.tmps.getD 1 undef=cap:=hvo _ _ _ (k2.fr 1)
  have v3:a2.tmps.getD 3 undef = .int .i64 (m:Int):=k2.fr 3
  have v11:a2.tmps.getD 11 undef=yv l:=k2.fr 11
  have v12:a2.tmps.getD 12 undef = .int .i64 (m:Int):=k2.fr 12
  have v16:a2.tmps.getD 16 undef = .agg el.toArray:=by
   obtain ⟨lv,h1,h2,h3⟩:(vagg (el.map vval)).p W2 _ (a2.tmps.getD 16 undef):=k2.fr 16
   rw [h1]
   have:lv=el:=by
    apply List.ext_getElem?
    intro j
    rcases Nat.lt_or_ge j el.length with hj | hj
    ·obtain ⟨y,p1,p2,_⟩:=h3 j (vval el[j]) (by rw [List.getElem?_map,List.getElem?_eq_getElem hj]; rfl)
     rw [p1,List.getElem?_eq_getElem hj]; exact congrArg some p2
    ·rw [List.getElem?_eq_none hj,List.getElem?_eq_none (by rw [List.length_map] at h2; omega)]
   rw [this]
  have hN2:a2.tmps.size=19:=k2.n.trans hNX
  have hD2:a2.defers=[]:=k2.df.trans hDX
  have hJ2:=hk _ _ _ hJ1 (hKX _ k2.kp)
  clear k2 hrel
  obtain ⟨fn,tm,asg,bdy,hrun,hR⟩:=hY m W2 (by omega) hJ2
  rw [helD] at hrun
  change (Instr.yield l #[.int .i64 (m:Int),.agg el.toArray]).run Tryz.prog W2=_ at hrun
  rw [hRX]
  show wpOpsIn Fence.wide 0 Tryz.prog _ _ [6,7] a2 W2
  refine y0c Z Z Z v11 (by simp [Act.eval,v12,v16]) hrun (hR.mono ?_)
  rintro e W3 (⟨rfl,hJ3⟩ | ⟨rfl,hJ3⟩)
  ·obtain ⟨hM3,hcp3⟩:=hc _ _ hJ3
   refine ⟨_,Z,?_⟩
   obtain ⟨a3,ha3⟩:∃ a3:Act,a3=a2.put (some 17) (.bool true):=⟨_,rfl⟩
   have hN3:a3.tmps.size=19:=by rw [ha3]; simpa [Act.put] using hN2
   have hD3:a3.defers=[]:=by rw [ha3]; exact hD2
   have g3:∀ t,a3.tmps.getD t undef=if t=17 then .bool true else a2.tmps.getD t undef:=fun t=>by rw [ha3]; exact Za hN2 (by decide) t
   show wpOpsIn Fence.wide 0 Tryz.prog _ _ (List.range' 7 1) (a2.put (some 17) (.bool true)) W3
   rw [← ha3]
   refine opsT (N:=19) (i:=7) (os:=[_]) hM3 hN3 hD3 [(0,vval (yv l)),(1,vc),(3,vint (m:Int)),(17,zr true)] ⟨?_,?_,?_,?_,U⟩ (Q':=fun f=>f 0 = .dat (vval (yv l))∧f 1 = .dat vc∧f 3 = .dat (vint (m:Int))∧f 18 = .dat (zr (!true))) Z Z (fun _ _ => ?_) ?_
   ·show _=_
    rw [g3,if_neg (by decide)]; exact v0
   ·rw [g3,if_neg (by decide),v1]; exact hvm _ hcp3
   ·show _=_
    rw [g3,if_neg (by decide)]; exact v3
   ·show _=_
    rw [g3,if_pos Z]
   ·exact za (ww Z) ⟨Z,Z,Z,Z⟩
   intro a4 W4 hk4 hN4 hD4 f g M' hfr ⟨e0,e1,e3,e18⟩
   have z0:a4.tmps.getD 0 undef=yv l:=by have:=hfr 0; rw [e0] at this; exact this
   have z1:a4.tmps.getD 1 undef=cap:=by have:=hfr 1; rw [e1] at this; exact hvo _ _ _ this
   have z3:a4.tmps.getD 3 undef = .int .i64 (m:Int):=by have:=hfr 3; rw [e3] at this; exact this
   have z18:a4.tmps.getD 18 undef = .bool false:=by have:=hfr 18; rw [e18] at this; exact this
   refine wpIn_cond_false z18 (wpIn_skip ?_)
   have hJ4:=hk _ _ _ hJ3 hk4
   obtain ⟨hM4,hcp4⟩:=hc _ _ hJ4
   refine wpIn_mono (z0m (N:=19) hM4 hN4 hD4 [(0,vval (yv l)),(1,vc),(3,vint (m:Int))] ⟨z0,by rw [z1]; exact hvm _ hcp4,by rw [z3]; rfl,trivial⟩ (Q:=fun e f=>e = .normal∧f 0 = .dat (vval (yv l))∧f 1 = .dat vc∧f 3 = .dat (vint ((m:Int) - 1))) fun X hN => ?_) ?_
   ·exact zq hN Z (qd Z (za (Yb Z Z (by omega)) (qe Z ⟨Z,Z,Z,Z⟩)))
   rintro e a5 W5 ⟨hk5,hN5,hD5,f5,own5,g5,M5,hfr5,rfl,e0,e1,e3⟩
   exact ih (by omega) a5 W5 hN5 hD5 (by have:=hfr5 0; rw [e0] at this; exact this) (by have:=hfr5 1; rw [e1] at this; exact hvo _ _ _ this) (by have:=hfr5 3; rw [e3] at this; exact this) (hk _ _ _ hJ4 hk5)
  ·refine ⟨_,Z,?_⟩
   obtain ⟨a3,ha3⟩:∃ a3:Act,a3=a2.put (some 17) (.bool false):=⟨_,rfl⟩
   show wpOpsIn Fence.wide 0 Tryz.prog _ _ [7] (a2.put (some 17) (.bool false)) W3
   rw [← ha3]
   have g3:∀ t,a3.tmps.getD t undef=if t=17 then .bool false else a2.tmps.getD t undef:=fun t=>by rw [ha3]; exact Za hN2 (by decide) t
   have hN3:a3.tmps.size=19:=by rw [ha3]; simpa [Act.put] using hN2
   have hD3:a3.defers=[]:=by rw [ha3]; exact hD2
   have v17:a3.tmps.getD 17 undef = .bool false:=by rw [g3,if_pos Z]
   rw [wpOpsIn_cons]
   unfold wpOpIn
   refine ⟨fun _ _=>U,?_⟩
   have hrun:∀ o:Oper,o.op = .unOp .not 4 (.tmp 17)→(o.semAt Fence.wide.round a3.eval).run Tryz.prog W3 = .ok (.value (.bool true)) W3:=fun o ho=>by
    rw [Oper.semAt_eq Fence.wide.round a3.eval o (fun c hc=>by rw [ho] at hc; cases hc)]
    have h1:a3.eval (.tmp 17) = .bool false:=v17
    simp only [execOp,ho,h1,Op.unary]
    rfl
   rw [hrun _ Z,Oper.uponIn_value]
   have t18:(a3.put (some 18) (.bool true)).tmps.getD 18 undef = .bool true:=by rw [show (a3.put (some 18) (.bool true)).tmps=a3.tmps.setIfInBounds 18 (.bool true) from Z,Za hN3 (by decide),if_pos Z]
   exact wpIn_cond_true t18 (wpIn_ret ⟨hD3,_,results_none Z _ _ _,⟨_,Z⟩,.inr hJ3⟩)

theorem w3h (c1:zx) (l2:(List zk)) (app3:Bs) (product4:Bs) (v5:Int) (r:(zw)) (H:z8j c1 l2 app3 product4 v5=some r):Fn Tryz.prog 118 [vagg (yy c1),vlst (List.map yi l2),vstr app3,vstr product4,vint v5] (yc [vagg (qq r)]):=by
 refine ⟨by kernel_rfl,y6i (us:=[vagg (qq r)]) Tryz.func118 Z Z Z Z fun X hN hR => ?_⟩
 unfold z8j at H
 refine z1b hR (zq hN Z (zd (qr 1 Z) Z (zd (Yu 2 Z Z) Z (zd (qf 3 jr Z) Z (z1b hR (zq hN Z (ze (yg ql Z Z Z) Z (qd Z (qd Z (qd Z (bE H fun r6 h7 H=>za (yb (x3r c1 l2 app3 product4 r6 h7) ⟨.inl Z,.inl Z,.inl Z,.inl Z,U⟩) (qd Z (za (qm Z Z) (za (qm Z Z) (qe Z (qe Z (y9b hR (zq hN Z (qd Z (za (yb (x3j r6.1) ⟨.inl Z,U⟩) ⟨Z,?_⟩))))))))))))))))))))
 refine gE H fun h9 H=>y6h (s0:=()) hR hN [(9,.ptr 2 0),(10,.ptr 3 0),(24,.dat (vfn 153 [qw [[vlst (List.map qq r6.1)]] 0 0]))] [(1,.box none 29 [.dat (vlst (List.map yt c1.Products)),.dat (vlst (List.map ym c1.Plans))]),(2,.box none 3 [.dat (vint v5)]),(3,.box none 108 [.dat (vint 0),.dat (vstr []),.dat (vint 0),.dat (vint 0)])] (fun (s:Unit)=>[(1,.box none 29 [.dat (vlst (List.map yt c1.Products)),.dat (vlst (List.map ym c1.Plans))]),(2,.box none 3 [.dat (vint v5)]),(3,.box none 108 [.dat (vint 0),.dat (vstr []),.dat (vint 0),.dat (vint 0)])]) x3z (fun _=>Z) (enters_of Tryz.func153 (by kernel_rfl) Z) Z h9 H ⟨Z,Z,Z,U⟩ ⟨Z,Z,Z,U⟩ Z Z (fun _=>Z) (fun _=>Z) (fun _ _=>Z) (fun _ _=>Z) (fun _=>Z) (fun _=>Z) (by decide) (by decide) ?_ ?_
 ·rintro A X k10 x11 ⟨⟩ q8 hN h12 h13 H hq8
  replace H:z9m v5 k10 x11=some q8:=H
  unfold z9m at H
  refine zq hN Z (zd (qf 4 jr Z) Z (zd (yz qh Z Z Z Z) Z ⟨Z,[(9,.ptr 2 0),(10,.ptr 3 0),(14,.ptr 4 0)],[(1,.box (some (A 1)) 29 [.dat (vlst (List.map yt c1.Products)),.dat (vlst (List.map ym c1.Plans))]),(2,.box (some (A 2)) 3 [.dat (vint v5)]),(3,.box (some (A 3)) 108 [.dat (vint 0),.dat (vstr []),.dat (vint 0),.dat (vint 0)]),(4,.box none 108 [.dat (vint x11.State),.dat (vstr x11.Plan),.dat (vint x11.Since),.dat (vint x11.First)])],⟨Z,Z,Z,U⟩,⟨Z,Z,Z,Z,U⟩,Z,Z,Z,fun X hN => ?_⟩))
  refine yd (zc hN Z (za (zj Qp Z) (ze (zl tyS3 Z Z) Z (ze (zl tyS3 Z Z) Z (za (xb Z Z) (zi _ Z (fun h14 => ?_) (fun h14 => ?_)))))))
  ·refine tE h14 H fun H=>zc hN Z (ze (yg qh Z Z Z) Z (zd (yz qh Z Z Z Z) Z (zn ?_)))
   replace H:=retl H hq8
   have eH:x11=r:=Option.some.inj H
   subst eH
   exact ⟨[(1,.box none 29 [.dat (vlst (List.map yt c1.Products)),.dat (vlst (List.map ym c1.Plans))]),(2,.box none 3 [.dat (vint v5)]),(3,.box none 108 [.dat (vint x11.State),.dat (vstr x11.Plan),.dat (vint x11.Since),.dat (vint x11.First)])],Z,Z,Z,Z,⟨Z,Z,Z,U⟩,⟨.inl ⟨_,_,_,qq x11,Z,Z,Z,Z,qh⟩,U⟩⟩
  ·exact fE h14 H fun H=>zp ⟨_,qj H,⟨Z,Z,Z,U⟩⟩
 ·rintro A X ⟨⟩ hN hR H
  replace H:z9n=some r:=H
  unfold z9n at H
  refine zc hN Z (bE H fun r15 h16 H=>za (yb (y7r  r15 h16) U) (zd (yz qh Z Z Z Z) Z (zn ?_)))
  have eH:r15=r:=Option.some.inj H
  subst eH
  exact ⟨.inr Z,[(10,.ptr 3 0)],[(3,.box (some (A 3)) 108 [.dat (vint r15.State),.dat (vstr r15.Plan),.dat (vint r15.Since),.dat (vint r15.First)])],⟨Z,U⟩,⟨Z,U⟩,Z,Z,⟨.inl ⟨_,_,_,qq r15,Z,Z,Z,Z,qh⟩,U⟩⟩
theorem w3d (s1:zw) (r:(Bool)) (H:y2w s1=some r):Fn Tryz.prog 120 [vagg (qq s1)] (yc [zr r]):=by
 refine ⟨by kernel_rfl,yl (us:=[zr r]) Tryz.func120 Z Z Z Z fun X hN => ?_⟩
 unfold y2w at H
 refine zc hN Z (zd (qr 1 Z) Z (qe Z (zc hN Z (za (zj vq Z) (ze (zl tyS3 Z Z) Z (za (qc Z Z) (qd Z (ji Z Z (fun hc=>zj vq Z) (z7e Z Z (fun hc=>zl tyS3 (cnd (c:=(!(decide (s1.State=2)))) hc) Z) Z jq (ji Z Z (fun hc=>qc (cnd (c:=(!(decide (s1.State=2)))) hc) Z) (za (ul Z Z (fun hb=>(cnd (c:=(!(decide (s1.State=2)))) (notI hb)))) (qe Z (zn ?_)))))))))))))
 cases H
 exact ⟨U,.inl Z,U⟩
theorem w3b (v1:zx) (v2:(List zk)) (v3:Bs) (v4:Bs) (v5:Int) (r:(zw×zw×Bool)) (H:z4p v1 v2 v3 v4 v5=some r):Fn Tryz.prog 81 [vagg (yy v1),vlst (List.map yi v2),vstr v3,vstr v4,vint v5] (yc [vagg (qq r.1),vagg (qq r.2.1),zr r.2.2]):=by
 refine ⟨by kernel_rfl,y6i (us:=[vagg (qq r.1),vagg (qq r.2.1),zr r.2.2]) Tryz.func81 Z Z Z Z fun X hN hR => ?_⟩
 unfold z4p at H
 refine z1b hR (zq hN Z (zd (qr 1 Z) Z (zd (qf 2 jr Z) Z (zd (qf 3 jr Z) Z (zd (qf 4 tyZ4 Z) Z (z1b hR (zq hN Z (qd Z (za (yj _ Z Z (.inr (.inr ⟨Z,Z⟩))) (qd Z (za (yj _ Z Z (.inl ⟨Z,Z⟩)) (za (yj _ Z Z (.inr (.inr ⟨Z,Z⟩))) (zd (qf 5 tyZ3 Z) Z (zd (qf 6 tyZ3 Z) Z (zd (wv tyS3 Z Z Z Z) Z (zd (wv tyS3 Z Z Z Z) Z (z1b hR (zq hN Z (ze (yg ql Z Z Z) Z (qd Z (qd Z (qd Z (bE H fun r6 h7 H=>?_)))))))))))))))))))))))
 refine za (yb (x3r v1 v2 v3 v4 r6 h7) ⟨.inl Z,.inl Z,.inl Z,.inl Z,U⟩) (qd Z (za (qm Z Z) (za (qm Z Z) (zd (qf 7 x6o Z) Z (zd (wv z3n Z Z Z Z) Z (qe Z (z1b hR (zq hN Z (ze (yg ql Z Z Z) Z (qd Z (qd Z (qd Z (ze (zl tyS3 Z Z) Z (za (yj _ Z Z (.inr (.inl ⟨Z,Z⟩))) (bE H fun r8 h9 H=>za (yb (w3h v1 v2 v3 v4 (wr ((wr ((wr (v5+1)) * 2592000000)) - 1)) r8 h9) ⟨.inl Z,.inl Z,.inl Z,.inl Z,.inl Z,U⟩) (zd (qf 8 jr Z) Z (zd (yz qh Z Z Z Z) Z (y9b hR (zq hN Z (ze (zl z3n Z Z) Z (za (yb (x3j r6.1) ⟨.inl Z,U⟩) ⟨Z,?_⟩)))))))))))))))))))))
 refine gE H fun h11 H=>y6h (s0:=()) hR hN [(10,.ptr 2 0),(11,.ptr 3 0),(12,.ptr 4 0),(13,.ptr 5 0),(14,.ptr 6 0),(15,.ptr 7 0),(17,.ptr 8 0),(42,.dat (vfn 153 [qw [[vlst (List.map qq r6.1)]] 0 0]))] [(1,.box none 29 [.dat (vlst (List.map yt v1.Products)),.dat (vlst (List.map ym v1.Plans))]),(2,.box none 108 [.dat (vint 0),.dat (vstr []),.dat (vint 0),.dat (vint 0)]),(3,.box none 108 [.dat (vint 0),.dat (vstr []),.dat (vint 0),.dat (vint 0)]),(4,.box none 4 [.dat (zr false)]),(5,.box none 3 [.dat (vint (wr (v5 * 2592000000)))]),(6,.box none 3 [.dat (vint (wr ((wr (v5+1)) * 2592000000)))]),(7,.box none 104 [.dat (vlst (List.map qq r6.1))]),(8,.box none 108 [.dat (vint r8.State),.dat (vstr r8.Plan),.dat (vint r8.Since),.dat (vint r8.First)])] (fun (s:Unit)=>[(1,.box none 29 [.dat (vlst (List.map yt v1.Products)),.dat (vlst (List.map ym v1.Plans))]),(2,.box none 108 [.dat (vint 0),.dat (vstr []),.dat (vint 0),.dat (vint 0)]),(3,.box none 108 [.dat (vint 0),.dat (vstr []),.dat (vint 0),.dat (vint 0)]),(4,.box none 4 [.dat (zr false)]),(5,.box none 3 [.dat (vint (wr (v5 * 2592000000)))]),(6,.box none 3 [.dat (vint (wr ((wr (v5+1)) * 2592000000)))]),(7,.box none 104 [.dat (vlst (List.map qq r6.1))]),(8,.box none 108 [.dat (vint r8.State),.dat (vstr r8.Plan),.dat (vint r8.Since),.dat (vint r8.First)])]) x3z (fun _=>Z) (enters_of Tryz.func153 (by kernel_rfl) Z) Z h11 H ⟨Z,Z,Z,Z,Z,Z,Z,Z,U⟩ ⟨Z,Z,Z,Z,Z,Z,Z,Z,U⟩ Z Z (fun _=>Z) (fun _=>Z) (fun _ _=>Z) (fun _ _=>Z) (fun _=>Z) (fun _=>Z) (by decide) (by decide) ?_ ?_
 ·rintro A X k12 x13 ⟨⟩ q10 hN h14 h15 H hq10
  replace H:z5a v5 r6 r8 k12 x13=some q10:=H
  unfold z5a at H
  refine zc hN Z (qe Z (zq hN Z (zd (qf 9 jr Z) Z (zd (yz qh Z Z Z Z) Z ⟨Z,[(10,.ptr 2 0),(11,.ptr 3 0),(12,.ptr 4 0),(13,.ptr 5 0),(14,.ptr 6 0),(15,.ptr 7 0),(17,.ptr 8 0),(18,.dat (vint (k12:Int))),(19,.ptr 9 0)],[(1,.box (some (A 1)) 29 [.dat (vlst (List.map yt v1.Products)),.dat (vlst (List.map ym v1.Plans))]),(2,.box (some (A 2)) 108 [.dat (vint 0),.dat (vstr []),.dat (vint 0),.dat (vint 0)]),(3,.box (some (A 3)) 108 [.dat (vint 0),.dat (vstr []),.dat (vint 0),.dat (vint 0)]),(4,.box (some (A 4)) 4 [.dat (zr false)]),(5,.box (some (A 5)) 3 [.dat (vint (wr (v5 * 2592000000)))]),(6,.box (some (A 6)) 3 [.dat (vint (wr ((wr (v5+1)) * 2592000000)))]),(7,.box (some (A 7)) 104 [.dat (vlst (List.map qq r6.1))]),(8,.box (some (A 8)) 108 [.dat (vint r8.State),.dat (vstr r8.Plan),.dat (vint r8.Since),.dat (vint r8.First)]),(9,.box none 108 [.dat (vint x13.State),.dat (vstr x13.Plan),.dat (vint x13.Since),.dat (vint x13.First)])],⟨Z,Z,Z,Z,Z,Z,Z,Z,Z,U⟩,⟨Z,Z,Z,Z,Z,Z,Z,Z,Z,U⟩,Z,Z,Z,fun X hN => ?_⟩))))
  refine yd (zc hN Z (qe Z (yw (ι:=Int) (fun i=>[(10,.ptr 2 0),(11,.ptr 3 0),(12,.ptr 4 0),(13,.ptr 5 0),(14,.ptr 6 0),(15,.ptr 7 0),(17,.ptr 8 0),(19,.ptr 9 0),(20,.dat (vint i))]) (fun i=>[(1,.box (some (A 1)) 29 [.dat (vlst (List.map yt v1.Products)),.dat (vlst (List.map ym v1.Plans))]),(2,.box (some (A 2)) 108 [.dat (vint 0),.dat (vstr []),.dat (vint 0),.dat (vint 0)]),(3,.box (some (A 3)) 108 [.dat (vint 0),.dat (vstr []),.dat (vint 0),.dat (vint 0)]),(4,.box (some (A 4)) 4 [.dat (zr false)]),(5,.box (some (A 5)) 3 [.dat (vint (wr (v5 * 2592000000)))]),(6,.box (some (A 6)) 3 [.dat (vint (wr ((wr (v5+1)) * 2592000000)))]),(7,.box (some (A 7)) 104 [.dat (vlst (List.map qq r6.1))]),(8,.box (some (A 8)) 108 [.dat (vint r8.State),.dat (vstr r8.Plan),.dat (vint r8.Since),.dat (vint r8.First)]),(9,.box none 108 [.dat (vint x13.State),.dat (vstr x13.Plan),.dat (vint x13.Since),.dat (vint x13.First)])]) (fun i=>z5b v5 r8 x13 i=some q10) (fun i=>Z) ?_ ?_)))
  ·skip
   refine zc hN Z (qd Z (za (wa Z Z (by omega)) (ze (zl z3n Z Z) Z (za (yu z6k Z) (za (ye Z Z) (zi _ Z (fun h16 => ?_) (fun h16 => ?_)))))))
   ·exact tE h16 H fun H=>zq hN Z (ze (zl z3n Z Z) Z (qd Z (za (wa Z Z (by omega)) (bE H fun x17 h18 H=>za (wq z6v (fun _=>Z) Z Z h18) (za (jd Qp Z) (za (wy tyS3 Z (qg h18) Z) (qe Z ⟨x17.Since,H,⟨Z,Z,Z,Z,Z,Z,Z,Z,Z,U⟩,⟨Z,Z,Z,Z,Z,Z,Z,Z,Z,U⟩⟩)))))))
   ·exact fE h16 H fun H=>zp ⟨345686400000,H,⟨Z,Z,Z,Z,Z,Z,Z,Z,Z,U⟩,⟨Z,Z,Z,Z,Z,Z,Z,Z,Z,U⟩⟩
  ·rintro v19 H
   replace H:z5b v5 r8 x13 v19=some q10:=H
   unfold z5b at H
   refine zc hN Z (ze (yg qh Z Z Z) Z (bE H fun r20 h21 H=>za (yb (w3d x13 r20 h21) ⟨.inl Z,U⟩) (qd Z (wb Z Z (fun hc=>zj Qp Z) (un Z Z (fun hc=>zl tyS3 (cnd (c:=r20) hc) Z) Z jq (un Z Z (fun hc=>zl tyS3 Z Z) Z jq (wb Z Z (fun hc=>ye (cnd (c:=r20) hc) (cnd (c:=r20) hc)) (za (jf Z (fun hb=>(cnd (c:=r20) hb)) Z) (qd Z (wb Z Z (fun hc=>zg (.dat _) Z) (un Z Z (fun hc=>zl tyS3 Z Z) Z jq (wb Z Z (fun hc=>wz (cnd (c:=(r20 && (decide (x13.Since < (wr ((wr (v5+1)) * 2592000000)))))) hc) (cnd (c:=(r20 && (decide (x13.Since < (wr ((wr (v5+1)) * 2592000000)))))) hc)) (za (jf Z (fun hb=>(cnd (c:=(r20 && (decide (x13.Since < (wr ((wr (v5+1)) * 2592000000)))))) hb)) Z) (qd Z (wb Z Z (fun hc=>zj Qp Z) (un Z Z (fun hc=>zl tyS3 (cnd (c:=((r20 && (decide (x13.Since < (wr ((wr (v5+1)) * 2592000000))))) && (decide ((wr (v5 * 2592000000)) < v19)))) hc) Z) Z jq (wb Z Z (fun hc=>zg (.dat _) Z) (wb Z Z (fun hc=>ye (cnd (c:=((r20 && (decide (x13.Since < (wr ((wr (v5+1)) * 2592000000))))) && (decide ((wr (v5 * 2592000000)) < v19)))) hc) (cnd (c:=((r20 && (decide (x13.Since < (wr ((wr (v5+1)) * 2592000000))))) && (decide ((wr (v5 * 2592000000)) < v19)))) hc)) (za (jf Z (fun hb=>(cnd (c:=((r20 && (decide (x13.Since < (wr ((wr (v5+1)) * 2592000000))))) && (decide ((wr (v5 * 2592000000)) < v19)))) hb)) Z) (zi _ Z (fun h22 => ?_) (fun h22 => ?_)))))))))))))))))))))
   ·refine tE h22 H fun H=>zf (wl mixed hN Z Z (ze (yg qh Z Z Z) Z (ze (yg qh Z Z Z) Z (zd (yz qh Z Z Z Z) Z (zd (yz qh Z Z Z Z) Z (zd (wv tyS4 Z Z Z Z) Z ⟨Z,?_⟩))))))
    refine zn ?_
    replace H:=retl H hq10
    cases H
    exact ⟨[(1,.box none 29 [.dat (vlst (List.map yt v1.Products)),.dat (vlst (List.map ym v1.Plans))]),(2,.box none 108 [.dat (vint x13.State),.dat (vstr x13.Plan),.dat (vint x13.Since),.dat (vint x13.First)]),(3,.box none 108 [.dat (vint r8.State),.dat (vstr r8.Plan),.dat (vint r8.Since),.dat (vint r8.First)]),(4,.box none 4 [.dat (zr true)]),(5,.box none 3 [.dat (vint (wr (v5 * 2592000000)))]),(6,.box none 3 [.dat (vint (wr ((wr (v5+1)) * 2592000000)))]),(7,.box none 104 [.dat (vlst (List.map qq r6.1))]),(8,.box none 108 [.dat (vint r8.State),.dat (vstr r8.Plan),.dat (vint r8.Since),.dat (vint r8.First)])],Z,Z,Z,Z,⟨Z,Z,Z,Z,Z,Z,Z,Z,U⟩,⟨.inl ⟨_,_,_,qq x13,Z,Z,Z,Z,qh⟩,.inl ⟨_,_,_,qq r8,Z,Z,Z,Z,qh⟩,.inr ⟨_,_,Z,Z,tyS4⟩,U⟩⟩
   ·exact fE h22 H fun H=>zp ⟨_,qj H,⟨Z,Z,Z,Z,Z,Z,Z,Z,U⟩⟩
 ·rintro A X ⟨⟩ hN hR H
  replace H:y3a r8=some r:=H
  unfold y3a at H
  refine zf (wl mixed hN Z Z (za (yf (u':=vagg (qq (zw.mk 0 [] 0 0))) (vj [] jr z6m Z U) Z) (ze (yg qh Z Z Z) Z (zd (yz qh Z Z Z Z) Z (zd (yz qh Z Z Z Z) Z (zd (wv tyS4 Z Z Z Z) Z ⟨Z,?_⟩))))))
  refine zn ?_
  cases H
  exact ⟨.inr Z,[(10,.ptr 2 0),(11,.ptr 3 0),(12,.ptr 4 0)],[(2,.box (some (A 2)) 108 [.dat (vint 0),.dat (vstr []),.dat (vint 0),.dat (vint 0)]),(3,.box (some (A 3)) 108 [.dat (vint r8.State),.dat (vstr r8.Plan),.dat (vint r8.Since),.dat (vint r8.First)]),(4,.box (some (A 4)) 4 [.dat (zr false)])],⟨Z,Z,Z,U⟩,⟨Z,Z,Z,U⟩,Z,Z,⟨.inl ⟨_,_,_,qq (zw.mk 0 [] 0 0),Z,Z,Z,Z,qh⟩,.inl ⟨_,_,_,qq r8,Z,Z,Z,Z,qh⟩,.inr ⟨_,_,Z,Z,tyS4⟩,U⟩⟩
theorem w3e (l1:(List zz)) (app2:Bs) (product3:Bs) (month4:Int) (r:(Int)) (H:z4r l1 app2 product3 month4=some r):Fn Tryz.prog 82 [vlst (List.map wn l1),vstr app2,vstr product3,vint month4] (yc [vint r]):=by
 refine ⟨by kernel_rfl,yl (us:=[vint r]) Tryz.func82 Z Z Z Z fun X hN => ?_⟩
 unfold z4r at H
 refine zc hN Z (qe Z (zf (zc hN Z (qd Z (za (yu Wy Z) (qd Z (yd (gE H fun h7 H=>ve (fun (k5:Nat) (s:Unit)=>[(1,.dat (vstr app2)),(2,.dat (vstr product3)),(3,.dat (vint month4)),(11,.dat (vlst (List.map wn l1))),(12,.dat (vint (l1.length:Int))),(13,.dat (vint (k5:Int)))]) (fun (k5:Nat) (s:Unit)=>[]) () H ⟨Z,Z,Z,Z,Z,Z,U⟩ U (fun _ _=>Z) ?_ ?_))))))))
 ·rintro ⟨⟩ H
  replace H:y3c=some r:=H
  unfold y3c at H
  refine zc hN Z (za (ye Z Z) (zf (zi _ Z (fun h=>(lt_t h).elim) (fun h => ?_))))
  refine qk (zc hN Z (qe Z (zn ?_)))
  cases H
  exact ⟨U,.inl Z,U⟩
 ·rintro k5 x8 ⟨⟩ q6 h9 h10 H hq6
  replace H:z5c app2 product3 month4 k5 x8=some q6:=H
  unfold z5c at H
  refine zc hN Z (za (ye Z Z) (zf (zi _ Z (fun h => ?_) (fun h=>(lt_f h9 h).elim))))
  refine zp (zf (yd (zc hN Z (za (wq z1p (fun _=>Z) Z Z h10) (za (wo Zd Z (qg h10) Z) (zd (qf 1 z1i Z) Z (zd (yz Zd Z Z Z Z) Z (zc hN Z (za (zj Yr Z) (ze (zl tyS9 Z Z) Z (qd Z (za (Yt Z Z) (qd Z (wb Z Z (fun hc=>zj z0d Z) (un Z Z (fun hc=>zl tyS9 (cnd (c:=(decide (x8.App=app2))) hc) Z) Z jq (wb Z Z (fun hc=>zg (.dat _) Z) (wb Z Z (fun hc=>Yt (cnd (c:=(decide (x8.App=app2))) hc) (cnd (c:=(decide (x8.App=app2))) hc)) (za (jf Z (fun hb=>(cnd (c:=(decide (x8.App=app2))) hb)) Z) (qd Z (wb Z Z (fun hc=>zj Zw Z) (un Z Z (fun hc=>zl tyS3 (cnd (c:=((decide (x8.App=app2)) && (decide (x8.Product=product3)))) hc) Z) Z jq (wb Z Z (fun hc=>zg (.dat _) Z) (wb Z Z (fun hc=>qc (cnd (c:=((decide (x8.App=app2)) && (decide (x8.Product=product3)))) hc) (cnd (c:=((decide (x8.App=app2)) && (decide (x8.Product=product3)))) hc)) ?_)))))))))))))))))))))))
  refine za (jf Z (fun hb=>(cnd (c:=((decide (x8.App=app2)) && (decide (x8.Product=product3)))) hb)) Z) (zi _ Z (fun h11 => ?_) (fun h11 => ?_))
  ·refine tE h11 H fun H=>zc hN Z (za (zj z6r Z) (ze (zl tyS3 Z Z) Z (qe Z (zn ?_))))
   replace H:=retl H hq6
   cases H
   exact ⟨U,.inl Z,U⟩
  ·exact fE h11 H fun H=>zp (zq hN Z (za (wa Z Z (by omega)) (qd Z ⟨_,qj H,⟨Z,Z,Z,Z,Z,Z,U⟩,U⟩)))
theorem w2f (l:List yp):Fn Tryz.prog 121 [vlst (List.map wd l)] (yc [vfn 154 [qw [[vlst (List.map wd l)]] 0 0]]):=by
 refine ⟨by kernel_rfl,yl (us:=[vfn 154 [qw [[vlst (List.map wd l)]] 0 0]]) Tryz.func121 Z Z Z Z fun X hN => ?_⟩
 exact zc hN Z (zd (Yu 1 Z Z) Z (qe Z (zf (z1c 1 [vlst (List.map wd l)] Z Z (zq hN Z (za (z0j (us:=[_]) ⟨Z,U⟩) (qe Z (zn ⟨U,.inl Z,U⟩))))))))
theorem w4h:y9y Tryz.prog 154 2 false:=by
 intro vals M l cap J Jx W hn hvn hk hc hY h0
 have hnt:Tryz.f154.ntmps=19:=Z
 refine callsIn_of_wp Tryz.func154 Z U ?_ Z
 rw [hnt]
 obtain ⟨vc,hvc⟩:∃ vc:V,vc=vand (qw [[vlst (vals.map fun c=>c.map vval)]] 0 0) cap:=⟨_,rfl⟩
 have hwk:Wk vc (qw [[vlst (vals.map fun c=>c.map vval)]] 0 0):=by rw [hvc]; exact y92 _ _
 have hvm:∀ W',(qw [[vlst (vals.map fun c=>c.map vval)]] 0 0).p W' M cap→vc.p W' M cap:=fun W' h=>by rw [hvc]; exact ⟨Z,h⟩
 have hvo:∀ W' M' v,vc.p W' M' v→v=cap:=fun W' M' v h=>by rw [hvc] at h; exact h.1
 obtain ⟨hM,hcp⟩:=hc _ _ h0
 refine wpIn_seq (wpIn_mono (z0m (N:=19) hM ?hN ?hD [(0,vval (yv l)),(1,vc)] ?hr (Q:=fun e f=>e = .normal∧f 0 = .dat (vval (yv l))∧f 1 = .dat vc∧f 3 = .dat (vint ((vals.length:Int) - 1))) fun X hN => ?_) ?_)
 case hN=>simp
 case hD=>rfl
 case hr=>exact ⟨by simp [yv,vval],by simpa using hvm _ hcp,trivial⟩
 ·exact zq hN Z (za (y0z kg Z hwk Z Z) (za (yu (C:=fun c:List Value=>c.map vval) Qj Z) (za (Yb Z Z (by omega)) (qe Z ⟨Z,Z,Z,Z⟩))))
 rintro e a W1 ⟨hk1,hN,hD,f,own,g,M',hfr,rfl,e0,e1,e3⟩
 have t0:a.tmps.getD 0 undef=yv l:=by have:=hfr 0; rw [e0] at this; exact this
 have t1:a.tmps.getD 1 undef=cap:=by have:=hfr 1; rw [e1] at this; exact hvo _ _ _ this
 have t3:a.tmps.getD 3 undef = .int .i64 ((vals.length:Int) - 1):=by have:=hfr 3; rw [e3] at this; exact this
 refine wpIn_block (wpIn_loop_rounds (vals.length+1) ?_)
 have hJ1:=hk _ _ _ h0 hk1
 clear hk1 hfr e0 e1 e3 hcp hM h0
 suffices key:∀ m,m≤vals.length→∀ a W,a.tmps.size=19→a.defers=[]→a.tmps.getD 0 undef=yv l→a.tmps.getD 1 undef=cap→a.tmps.getD 3 undef = .int .i64 ((m:Int) - 1)→J m W→Code.roundsIn Fence.wide 0 Tryz.prog _ _ (m+1) a W from key _ (Nat.le_refl _) a W1 hN hD t0 t1 t3 hJ1
 clear t0 t1 t3 hN hD hJ1
 intro m
 induction m with
 | zero =>
  intro _ a W hN hD t0 t1 t3 hJ
  obtain ⟨hM,hcp⟩:=hc _ _ hJ
  rw [roundsIn_succ]
  refine wpIn_seq (wpIn_seq (wpIn_mono (z0m (N:=19) hM hN hD [(3,vint (-1))] ⟨by rw [t3]; rfl,trivial⟩ (Q:=fun e f=>e = .normal∧f 8 = .dat (zr (decide ((0:Int)≤-1)))) fun X hN => ?_) ?_))
  ·exact zq hN Z (qd Z (za (jn Z Z) ⟨Z,Z⟩))
  rintro e a' W' ⟨hk1,hN',hD',f,own,g,M',hfr,rfl,e8⟩
  have t8:a'.tmps.getD 8 undef = .bool false:=by have:=hfr 8; rw [e8] at this; exact this
  exact wpIn_cond_false t8 (wpIn_exit ⟨hD',_,results_none Z _ _ _,⟨_,Z⟩,.inl (hk _ _ _ hJ hk1)⟩)
 | succ m ih =>
  intro hm a W hN hD t0 t1 t3 hJ
  obtain ⟨hM,hcp⟩:=hc _ _ hJ
  have hm3:(((m+1:Nat):Int) - 1)=(m:Int):=by omega
  rw [hm3] at t3
  rw [roundsIn_succ]
  refine wpIn_seq (wpIn_seq (wpIn_mono (z0m (N:=19) hM hN hD [(0,vval (yv l)),(1,vc),(3,vint (m:Int))] ⟨t0,by rw [t1]; exact hvm _ hcp,by rw [t3]; rfl,trivial⟩ (Q:=fun e f=>e = .normal∧f 0 = .dat (vval (yv l))∧f 1 = .dat vc∧f 3 = .dat (vint (m:Int))∧f 8 = .dat (zr (decide ((0:Int)≤(m:Int))))) fun X hN => ?_) ?_))
  ·exact zq hN Z (qd Z (za (jn Z Z) ⟨Z,Z,Z,Z,Z⟩))
  rintro e a1 W1 ⟨hk1,hN1,hD1,f,own,g,M',hfr,rfl,e0,e1,e3,e8⟩
  have u0:a1.tmps.getD 0 undef=yv l:=by have:=hfr 0; rw [e0] at this; exact this
  have u1:a1.tmps.getD 1 undef=cap:=by have:=hfr 1; rw [e1] at this; exact hvo _ _ _ this
  have u3:a1.tmps.getD 3 undef = .int .i64 (m:Int):=by have:=hfr 3; rw [e3] at this; exact this
  have u8:a1.tmps.getD 8 undef = .bool true:=by
   have:=hfr 8; rw [e8,decide_eq_true (by omega)] at this; exact this
  refine wpIn_cond_true u8 (wpIn_skip ?_)
  have hJ1:=hk _ _ _ hJ hk1
  clear hfr e0 e1 e3 e8 hk1 hJ hM hcp t0 t1 t3 hN hD
  obtain ⟨hM1,hcp1⟩:=hc _ _ hJ1
  refine wpIn_seq (wpIn_block (wpIn_seq ?_))
  refine wpIn_region ?_
  obtain ⟨X,hX⟩:∃ X:Ctx,X=⟨fun b=>M b,W1,[],19,none,[]⟩:=⟨_,rfl⟩
  have hrel:Rel X (frs (datL [(0,vval (yv l)),(1,vc),(3,vint (m:Int))])) (fun _=>none) ⟨fun _=>none,fun _ _=>none⟩ a1 W1:=by
   subst hX
   have he:Ext M (Mof ⟨fun b=>M b,W1,[],19,none,[]⟩ ⟨fun _=>none,fun _ _=>none⟩ (fun _=>none)) W1 W1:=⟨Nat.le_refl _,fun _ _ _ _=>Z,fun b _ hb=>by
    rcases hb with hb | ⟨id,o,ho,_⟩
    ·exact hb
    ·cases ho⟩
   refine ⟨Kp.refl _ _,⟨fun b hb=>⟨hM1.1 b hb,by simp⟩,hM1.2.1,fun b hb=>⟨hM1.2.2 b hb,by simp⟩⟩,hN1,hD1,fun t=>z7h [(0,vval (yv l)),(1,vc),(3,vint (m:Int))] ⟨u0,by rw [u1]; exact vc.keep he (hvm _ hcp1),by rw [u3]; rfl,trivial⟩ t,fun id o ho=>(by cases ho),fun id _ o _ b ho=>(by cases ho),fun id o b ho=>(by cases ho),fun id _=>⟨rfl,fun _=>rfl⟩,fun id e size es h=>(by cases h)⟩
  have hNX:X.N=19:=by rw [hX]
  have hRX:X.R=none:=by rw [hX]
  have hDX:X.D=[]:=by rw [hX]
  have hKX:∀ W',Kp X.S0 X.w0 W'→Kp [] W1 W':=fun W' h=>by rw [hX] at h; exact h
  obtain ⟨el,hel⟩:∃ el,vals[m]?=some el:=⟨_,List.getElem?_eq_getElem (by omega)⟩
  have hell:(el.map vval).length=2:=by rw [List.length_map]; exact hvn el (List.mem_of_getElem? hel)
  have helm:(vals.map fun c=>c.map vval)[m]?=some (el.map vval):=by rw [List.getElem?_map,hel]; rfl
  have helD:vals.getD m []=el:=by rw [List.getD_eq_getElem?_getD,hel]; rfl
  clear hX
  refine opsR hRX (n:=6+2) rfl (z3y (P:=Tryz.prog) (X:=X) (by rw [hNX]; rfl) [_,_,_,_,_,_] [_,_] 0 _ _ [] _ a1 W1 rfl hrel ?_)
  refine qd Z (qd Z (za (y0z kg Z hwk Z Z) (qd Z ?_)))
  refine za (y00 (k:=m) Qq Z Z (by rw [List.length_map]; omega) (fun c hc=>by
   obtain ⟨c',hc',rfl⟩:=List.mem_map.1 hc
   rw [List.length_map]; exact hvn c' hc')) ?_
  refine za (wo z0a Z helm hell) ?_
  intro g2 a2 W2 k2
  have v0:a2.tmps.getD 0 undef=yv l:=k2.fr 0
  have v1:a2.tmps.getD 1 undef=cap:=hvo _ _ _ (k2.fr 1)
  have v3:a2.tmps.getD 3 undef = .int .i64 (m:Int):=k2.fr 3
  have v11:a2.tmps.getD 11 undef=yv l:=k2.fr 11
  have v12:a2.tmps.getD 12 undef = .int .i64 (m:Int):=k2.fr 12
  have v16:a2.tmps.getD 16 undef = .agg el.toArray:=by
   obtain ⟨lv,h1,h2,h3⟩:(vagg (el.map vval)).p W2 _ (a2.tmps.getD 16 undef):=k2.fr 16
   rw [h1]
   have:lv=el:=by
    apply List.ext_getElem?
    intro j
    rcases Nat.lt_or_ge j el.length with hj | hj
    ·obtain ⟨y,p1,p2,_⟩:=h3 j (vval el[j]) (by rw [List.getElem?_map,List.getElem?_eq_getElem hj]; rfl)
     rw [p1,List.getElem?_eq_getElem hj]; exact congrArg some p2
    ·rw [List.getElem?_eq_none hj,List.getElem?_eq_none (by rw [List.length_map] at h2; omega)]
   rw [this]
  have hN2:a2.tmps.size=19:=k2.n.trans hNX
  have hD2:a2.defers=[]:=k2.df.trans hDX
  have hJ2:=hk _ _ _ hJ1 (hKX _ k2.kp)
  clear k2 hrel
  obtain ⟨fn,tm,asg,bdy,hrun,hR⟩:=hY m W2 (by omega) hJ2
  rw [helD] at hrun
  change (Instr.yield l #[.int .i64 (m:Int),.agg el.toArray]).run Tryz.prog W2=_ at hrun
  rw [hRX]
  show wpOpsIn Fence.wide 0 Tryz.prog _ _ [6,7] a2 W2
  refine y0c Z Z Z v11 (by simp [Act.eval,v12,v16]) hrun (hR.mono ?_)
  rintro e W3 (⟨rfl,hJ3⟩ | ⟨rfl,hJ3⟩)
  ·obtain ⟨hM3,hcp3⟩:=hc _ _ hJ3
   refine ⟨_,Z,?_⟩
   obtain ⟨a3,ha3⟩:∃ a3:Act,a3=a2.put (some 17) (.bool true):=⟨_,rfl⟩
   have hN3:a3.tmps.size=19:=by rw [ha3]; simpa [Act.put] using hN2
   have hD3:a3.defers=[]:=by rw [ha3]; exact hD2
   have g3:∀ t,a3.tmps.getD t undef=if t=17 then .bool true else a2.tmps.getD t undef:=fun t=>by rw [ha3]; exact Za hN2 (by decide) t
   show wpOpsIn Fence.wide 0 Tryz.prog _ _ (List.range' 7 1) (a2.put (some 17) (.bool true)) W3
   rw [← ha3]
   refine opsT (N:=19) (i:=7) (os:=[_]) hM3 hN3 hD3 [(0,vval (yv l)),(1,vc),(3,vint (m:Int)),(17,zr true)] ⟨?_,?_,?_,?_,U⟩ (Q':=fun f=>f 0 = .dat (vval (yv l))∧f 1 = .dat vc∧f 3 = .dat (vint (m:Int))∧f 18 = .dat (zr (!true))) Z Z (fun _ _ => ?_) ?_
   ·show _=_
    rw [g3,if_neg (by decide)]; exact v0
   ·rw [g3,if_neg (by decide),v1]; exact hvm _ hcp3
   ·show _=_
    rw [g3,if_neg (by decide)]; exact v3
   ·show _=_
    rw [g3,if_pos Z]
   ·exact za (ww Z) ⟨Z,Z,Z,Z⟩
   intro a4 W4 hk4 hN4 hD4 f g M' hfr ⟨e0,e1,e3,e18⟩
   have z0:a4.tmps.getD 0 undef=yv l:=by have:=hfr 0; rw [e0] at this; exact this
   have z1:a4.tmps.getD 1 undef=cap:=by have:=hfr 1; rw [e1] at this; exact hvo _ _ _ this
   have z3:a4.tmps.getD 3 undef = .int .i64 (m:Int):=by have:=hfr 3; rw [e3] at this; exact this
   have z18:a4.tmps.getD 18 undef = .bool false:=by have:=hfr 18; rw [e18] at this; exact this
   refine wpIn_cond_false z18 (wpIn_skip ?_)
   have hJ4:=hk _ _ _ hJ3 hk4
   obtain ⟨hM4,hcp4⟩:=hc _ _ hJ4
   refine wpIn_mono (z0m (N:=19) hM4 hN4 hD4 [(0,vval (yv l)),(1,vc),(3,vint (m:Int))] ⟨z0,by rw [z1]; exact hvm _ hcp4,by rw [z3]; rfl,trivial⟩ (Q:=fun e f=>e = .normal∧f 0 = .dat (vval (yv l))∧f 1 = .dat vc∧f 3 = .dat (vint ((m:Int) - 1))) fun X hN => ?_) ?_
   ·exact zq hN Z (qd Z (za (Yb Z Z (by omega)) (qe Z ⟨Z,Z,Z,Z⟩)))
   rintro e a5 W5 ⟨hk5,hN5,hD5,f5,own5,g5,M5,hfr5,rfl,e0,e1,e3⟩
   exact ih (by omega) a5 W5 hN5 hD5 (by have:=hfr5 0; rw [e0] at this; exact this) (by have:=hfr5 1; rw [e1] at this; exact hvo _ _ _ this) (by have:=hfr5 3; rw [e3] at this; exact this) (hk _ _ _ hJ4 hk5)
  ·refine ⟨_,Z,?_⟩
   obtain ⟨a3,ha3⟩:∃ a3:Act,a3=a2.put (some 17) (.bool false):=⟨_,rfl⟩
   show wpOpsIn Fence.wide 0 Tryz.prog _ _ [7] (a2.put (some 17) (.bool false)) W3
   rw [← ha3]
   have g3:∀ t,a3.tmps.getD t undef=if t=17 then .bool false else a2.tmps.getD t undef:=fun t=>by rw [ha3]; exact Za hN2 (by decide) t
   have hN3:a3.tmps.size=19:=by rw [ha3]; simpa [Act.put] using hN2
   have hD3:a3.defers=[]:=by rw [ha3]; exact hD2
   have v17:a3.tmps.getD 17 undef = .bool false:=by rw [g3,if_pos Z]
   rw [wpOpsIn_cons]
   unfold wpOpIn
   refine ⟨fun _ _=>U,?_⟩
   have hrun:∀ o:Oper,o.op = .unOp .not 4 (.tmp 17)→(o.semAt Fence.wide.round a3.eval).run Tryz.prog W3 = .ok (.value (.bool true)) W3:=fun o ho=>by
    rw [Oper.semAt_eq Fence.wide.round a3.eval o (fun c hc=>by rw [ho] at hc; cases hc)]
    have h1:a3.eval (.tmp 17) = .bool false:=v17
    simp only [execOp,ho,h1,Op.unary]
    rfl
   rw [hrun _ Z,Oper.uponIn_value]
   have t18:(a3.put (some 18) (.bool true)).tmps.getD 18 undef = .bool true:=by rw [show (a3.put (some 18) (.bool true)).tmps=a3.tmps.setIfInBounds 18 (.bool true) from Z,Za hN3 (by decide),if_pos Z]
   exact wpIn_cond_true t18 (wpIn_ret ⟨hD3,_,results_none Z _ _ _,⟨_,Z⟩,.inr hJ3⟩)

theorem w3m (p1:ya) (calls2:Int) (r:(Int)) (H:z8n p1 calls2=some r):Fn Tryz.prog 83 [vagg (ym p1),vint calls2] (yc [vint r]):=by
 refine ⟨by kernel_rfl,y6i (us:=[vint r]) Tryz.func83 Z Z Z Z fun X hN hR => ?_⟩
 unfold z8n at H
 refine z1b hR (zq hN Z (zd (qr 1 Z) Z (qe Z (z1b hR (zq hN Z (qd Z (za (zj z6q Z) (ze (zl tyS3 Z Z) Z (za (yj _ Z Z (.inr (.inl ⟨Z,Z⟩))) (za (y49 Z Z) (zd (qf 2 tyZ3 Z) Z (zd (qf 3 tyZ3 Z) Z (zd (wv tyS3 Z Z Z Z) Z (zd (wv tyS3 Z Z Z Z) Z (y9b hR (zq hN Z (za (zj kz Z) (ze (zl kg Z Z) Z (za (yb (w2f p1.Tiers) ⟨.inl Z,U⟩) ⟨Z,?_⟩)))))))))))))))))))
 refine gE H fun h6 H=>y6h (s0:=((max 0 (wr (calls2 - p1.Free))),0)) hR hN [(4,.dat (vint 0)),(5,.ptr 2 0),(6,.ptr 3 0),(16,.dat (vfn 154 [qw [[vlst (List.map wd p1.Tiers)]] 0 0]))] [(1,.box none 84 [.dat (vstr p1.Key),.dat (vstr p1.Product),.dat (vint p1.Base),.dat (vint p1.Free),.dat (vlst (List.map wd p1.Tiers)),.dat (vint p1.Limit),.dat (vint p1.Trial),.dat (zr p1.Asked)]),(2,.box none 3 [.dat (vint (max 0 (wr (calls2 - p1.Free))))]),(3,.box none 3 [.dat (vint 0)])] (fun (s:Int×Int)=>[(1,.box none 84 [.dat (vstr p1.Key),.dat (vstr p1.Product),.dat (vint p1.Base),.dat (vint p1.Free),.dat (vlst (List.map wd p1.Tiers)),.dat (vint p1.Limit),.dat (vint p1.Trial),.dat (zr p1.Asked)]),(2,.box none 3 [.dat (vint s.1)]),(3,.box none 3 [.dat (vint s.2)])]) w4h (fun _=>Z) (enters_of Tryz.func154 (by kernel_rfl) Z) Z h6 H ⟨Z,Z,Z,Z,U⟩ ⟨Z,Z,Z,U⟩ Z Z (fun _=>Z) (fun _=>Z) (fun _ _=>Z) (fun _ _=>Z) (fun _=>Z) (fun _=>Z) (by decide) (by decide) ?_ ?_
 ·rintro A X k7 x8 ⟨c3,c4⟩ q5 hN h9 h10 H hq5
  replace H:z22 k7 x8 c3 c4=some q5:=H
  unfold z22 at H
  refine zq hN Z (zd (qf 4 Wv Z) Z (zd (yz z0a Z Z Z Z) Z ⟨Z,[(5,.ptr 2 0),(6,.ptr 3 0),(8,.ptr 4 0)],[(1,.box (some (A 1)) 84 [.dat (vstr p1.Key),.dat (vstr p1.Product),.dat (vint p1.Base),.dat (vint p1.Free),.dat (vlst (List.map wd p1.Tiers)),.dat (vint p1.Limit),.dat (vint p1.Trial),.dat (zr p1.Asked)]),(2,.box (some (A 2)) 3 [.dat (vint c3)]),(3,.box (some (A 3)) 3 [.dat (vint c4)]),(4,.box none 81 [.dat (vint x8.From),.dat (vint x8.Cents)])],⟨Z,Z,Z,U⟩,⟨Z,Z,Z,Z,U⟩,Z,Z,Z,fun X hN => ?_⟩))
  refine yd (zc hN Z (ze (zl tyS3 Z Z) Z (za (zj xj Z) (ze (zl tyS3 Z Z) Z (za (jn Z Z) (zi _ Z (fun h11 => ?_) (fun h11 => ?_)))))))
  ·exact tE h11 H fun H=>zc hN Z (ze (zl tyS3 Z Z) Z (ze (zl tyS3 Z Z) Z (za (zj xj Z) (ze (zl tyS3 Z Z) Z (za (yj _ Z Z (.inr (.inl ⟨Z,Z⟩))) (za (yj _ Z Z (.inl ⟨Z,Z⟩)) (za (zj y0o Z) (ze (zl tyS3 Z Z) Z (za (yj _ Z Z (.inr (.inr ⟨Z,Z⟩))) (za (yj _ Z Z (.inl ⟨Z,Z⟩)) (zd (wv tyS3 Z Z Z Z) Z (zq hN Z (za (zj xj Z) (ze (zl tyS3 Z Z) Z (za (yj _ Z Z (.inr (.inl ⟨Z,Z⟩))) (zd (wv tyS3 Z Z Z Z) Z ⟨_,qj H,⟨Z,Z,Z,U⟩⟩))))))))))))))))
  ·exact fE h11 H fun H=>zp ⟨_,qj H,⟨Z,Z,Z,U⟩⟩
 ·rintro A X ⟨c3,c4⟩ hN hR H
  replace H:z5g c3 c4=some r:=H
  unfold z5g at H
  refine zc hN Z (ze (zl tyS3 Z Z) Z (gE H fun h12 H=>za (Qs Z Z h12.1 h12.2) (qe Z (zn ?_))))
  cases H
  exact ⟨.inr Z,[(4,.dat (vint (c4 / 1000)))],[],⟨Z,U⟩,U,Z,Z,⟨.inl Z,U⟩⟩
theorem w3c (v1:zx) (v2:(List zk)) (v3:(List zz)) (v4:Bs) (v5:Bs) (v6:Int) (r:((List yx))) (H:z2f v1 v2 v3 v4 v5 v6=some r):Fn Tryz.prog 41 [vagg (yy v1),vlst (List.map yi v2),vlst (List.map wn v3),vstr v4,vstr v5,vint v6] (yc [vlst (List.map wh r)]):=by
 refine ⟨by kernel_rfl,yl (us:=[vlst (List.map wh r)]) Tryz.func41 Z Z Z Z fun X hN => ?_⟩
 unfold z2f at H
 refine zc hN Z (zd (qr 1 Z) Z (qe Z (zc hN Z (ze (yg ql Z Z Z) Z (qd Z (qd Z (qd Z (qd Z (bE H fun r7 h8 H=>za (yb (w3b v1 v2 v4 v5 v6 r7 h8) ⟨.inl Z,.inl Z,.inl Z,.inl Z,.inl Z,U⟩) (qd Z (za (qm Z Z) (za (qm Z Z) (za (qm Z Z) (zd (qf 2 jr Z) Z (zd (qf 3 jr Z) Z (zd (yz qh Z Z Z Z) Z (zd (yz qh Z Z Z Z) Z (qe Z (zf (zc hN Z (qd Z (za (ww Z) ?_))))))))))))))))))))))
 refine zi _ Z (fun h9 => ?_) (fun h9 => ?_)
 ·refine tE h9 H fun H=>zc hN Z (qe Z (zn ?_))
  cases H
  exact ⟨U,.inr ⟨Z,Z⟩,U⟩
 ·refine fE h9 H fun H=>zp (zf (wl mixed hN Z Z (za (zj jk Z) (ze (zl jj Z Z) Z (ze (yg ql Z Z Z) Z (za (zj z1o Z) (ze (zl tyS9 Z Z) Z (bE H fun r10 h11 H=>za (yb (z9c v1 r7.1.Plan r10 h11) ⟨.inl Z,.inl Z,U⟩) (bE H fun x12 h13 H=>za (ja xm (fun _=>Z) Z Z h13) (za (wo vu Z (qg (qi h13).2) Z) (zd (qf 4 uj Z) Z (zd (yz vu Z Z Z Z) Z ⟨Z,?_⟩))))))))))))
  refine zc hN Z (qe Z (yw (ι:=Bool) (fun i=>[(2,.dat (vlst (List.map wn v3))),(3,.dat (vstr v4)),(4,.dat (vstr v5)),(5,.dat (vint v6)),(14,.ptr 3 0),(16,.ptr 4 0),(17,.dat (vnil)),(18,.dat (zr i))]) (fun i=>[(3,.box none 108 [.dat (vint r7.2.1.State),.dat (vstr r7.2.1.Plan),.dat (vint r7.2.1.Since),.dat (vint r7.2.1.First)]),(4,.box none 84 [.dat (vstr x12.Key),.dat (vstr x12.Product),.dat (vint x12.Base),.dat (vint x12.Free),.dat (vlst (List.map wd x12.Tiers)),.dat (vint x12.Limit),.dat (vint x12.Trial),.dat (zr x12.Asked)])]) (fun i=>z2s v3 v4 v5 v6 r7 x12 i=some r) (fun i=>Z) ?_ ?_))
  ·skip
   refine zq hN Z (za (zj z1m Z) (ze (zl tyS3 Z Z) Z (za (vn Z Z) (qd Z (qv (j:=3) Z Z (fun h14 => ?_) (fun h14 => ?_) Z)))))
   ·exact u1 h14 H fun h15 H=>zo Z Z h14 (zg (.dat _) Z) (zo Z Z h14 (zj z1n Z) (wc Z Z h14 (zl tyS3 Z Z) Z (gE H fun h16 H=>zo Z Z h14 (Qs Z Z h16.1 h16.2) (zo Z Z h14 (yj _ Z Z (.inr (.inl ⟨Z,Z⟩))) (zo Z Z h14 (zj z6p Z) (wc Z Z h14 (zl tyS3 Z Z) Z (zo Z Z h14 (jn Z Z) (za (qt Z (bTT h15) Z) (qe Z ⟨decide (x12.Trial≤(wr (v6 - (r7.1.First / 2592000000)))),H,⟨Z,Z,Z,Z,Z,Z,Z,Z,U⟩,⟨Z,Z,U⟩⟩)))))))))
   ·exact u2 h14 H fun h17 H=>zh Z Z h14 (zh Z Z h14 (zh Z Z h14 (zh Z Z h14 (zh Z Z h14 (zh Z Z h14 (zh Z Z h14 (zh Z Z h14 (za (yq Z (bFF h17) Z) (qe Z ⟨false,H,⟨Z,Z,Z,Z,Z,Z,Z,Z,U⟩,⟨Z,Z,U⟩⟩)))))))))
  ·rintro v18 H
   replace H:z2s v3 v4 v5 v6 r7 x12 v18=some r:=H
   unfold z2s at H
   refine Qg 17 5 90 5 Z Z Z (yw (ι:=(List yx)) (fun i=>[(2,.dat (vlst (List.map wn v3))),(3,.dat (vstr v4)),(4,.dat (vstr v5)),(5,.dat (vint v6)),(14,.ptr 3 0),(16,.ptr 4 0),(17,.row 5 i.length),(18,.dat (zr v18))]) (fun i=>[(3,.box none 108 [.dat (vint r7.2.1.State),.dat (vstr r7.2.1.Plan),.dat (vint r7.2.1.Since),.dat (vint r7.2.1.First)]),(4,.box none 84 [.dat (vstr x12.Key),.dat (vstr x12.Product),.dat (vint x12.Base),.dat (vint x12.Free),.dat (vlst (List.map wd x12.Tiers)),.dat (vint x12.Limit),.dat (vint x12.Trial),.dat (zr x12.Asked)]),(5,.row 90 5 (List.map wh i))]) (fun i=>z2r v3 v4 v5 v6 r7 x12 v18 i=some r) (fun i=>Z) ?_ ?_)
   ·skip
    refine zc hN Z (qd Z (zi _ Z (fun h19 => ?_) (fun h19 => ?_)))
    ·refine tE h19 H fun H=>zq hN Z (za (zg (.row _ _) Z) (qd Z (qd Z (za (zj z1m Z) (ze (zl tyS3 Z Z) Z (za (yf (u':=vagg (wh (yx.mk v4 v5 [98,97,115,101] 0 x12.Base))) (vj [(0,[vstr v4]),(1,[vstr v5]),(2,[vstr [98,97,115,101]]),(4,[vint x12.Base])] z3m y0j Z ⟨Z,.inl ⟨_,Z,Z,Z⟩,Z,Z,.inl ⟨_,Z,Z,Z⟩,Z,Z,.inl ⟨_,Z,Z,Z⟩,Z,Z,.inl ⟨_,Z,Z,Z⟩,Z,U⟩) Z) (za (yf (u':=vlst (List.map wh [(yx.mk v4 v5 [98,97,115,101] 0 x12.Base)])) (qa [_] xi ⟨Z,.inr Z,Z,U⟩ Z Z) Z) (gE H fun h20 H=>zd (je (C:=wh) (xs:=([]:List yx)) xi (fun _=>Z) Z Z Z ⟨by simp,by first | (simp; done) | simpa using h20⟩ Z) Z ?_))))))))
     exact za (qy (.row _ _) Z) ⟨(([]:List yx)++([(yx.mk v4 v5 [98,97,115,101] 0 x12.Base)])),H,⟨Z,Z,Z,Z,Z,Z,Z,Z,U⟩,⟨Z,Z,Z,U⟩⟩
    ·exact fE h19 H fun H=>zp ⟨([]:List yx),H,⟨Z,Z,Z,Z,Z,Z,Z,Z,U⟩,⟨Z,Z,Z,U⟩⟩
   ·rintro v21 H
    replace H:z2r v3 v4 v5 v6 r7 x12 v18 v21=some r:=H
    unfold z2r at H
    refine zc hN Z (qd Z (qd Z (qd Z (qd Z (bE H fun r22 h23 H=>za (yb (w3e v3 v4 v5 v6 r22 h23) ⟨.inl Z,.inl Z,.inl Z,.inl Z,U⟩) (qe Z (yw (ι:=(List yx)) (fun i=>[(3,.dat (vstr v4)),(4,.dat (vstr v5)),(5,.dat (vint v6)),(14,.ptr 3 0),(16,.ptr 4 0),(17,.row 5 i.length),(18,.dat (zr v18))]) (fun i=>[(3,.box none 108 [.dat (vint r7.2.1.State),.dat (vstr r7.2.1.Plan),.dat (vint r7.2.1.Since),.dat (vint r7.2.1.First)]),(4,.box none 84 [.dat (vstr x12.Key),.dat (vstr x12.Product),.dat (vint x12.Base),.dat (vint x12.Free),.dat (vlst (List.map wd x12.Tiers)),.dat (vint x12.Limit),.dat (vint x12.Trial),.dat (zr x12.Asked)]),(5,.row 90 5 (List.map wh i))]) (fun i=>z2q v4 v5 v6 r7 x12 v18 i=some r) (fun i=>Z) ?_ ?_)))))))
    ·skip
     refine zc hN Z (ze (yg vu Z Z Z) Z (qd Z (bE H fun r24 h25 H=>za (yb (w3m x12 r22 r24 h25) ⟨.inl Z,.inl Z,U⟩) (qe Z (zc hN Z (qd Z (za (vn Z Z) (zi _ Z (fun h26 => ?_) (fun h26 => ?_)))))))))
     ·refine tE h26 H fun H=>zq hN Z (za (zg (.row _ _) Z) (qd Z (qd Z (qd Z (qd Z (za (yf (u':=vagg (wh (yx.mk v4 v5 [99,97,108,108,115] r22 r24))) (vj [(0,[vstr v4]),(1,[vstr v5]),(2,[vstr [99,97,108,108,115]]),(3,[vint r22]),(4,[vint r24])] z3m y0j Z ⟨Z,.inl ⟨_,Z,Z,Z⟩,Z,Z,.inl ⟨_,Z,Z,Z⟩,Z,Z,.inl ⟨_,Z,Z,Z⟩,Z,Z,.inl ⟨_,Z,Z,Z⟩,Z,Z,.inl ⟨_,Z,Z,Z⟩,Z,U⟩) Z) (za (yf (u':=vlst (List.map wh [(yx.mk v4 v5 [99,97,108,108,115] r22 r24)])) (qa [_] xi ⟨Z,.inr Z,Z,U⟩ Z Z) Z) (gE H fun h27 H=>zd (je xi (fun _=>Z) Z Z Z ⟨by simp,by first | (simp; done) | simpa using h27⟩ Z) Z ?_))))))))
      exact za (qy (.row _ _) Z) ⟨(v21++([(yx.mk v4 v5 [99,97,108,108,115] r22 r24)])),H,⟨Z,Z,Z,Z,Z,Z,Z,U⟩,⟨Z,Z,Z,U⟩⟩
     ·exact fE h26 H fun H=>zp ⟨v21,H,⟨Z,Z,Z,Z,Z,Z,Z,U⟩,⟨Z,Z,Z,U⟩⟩
    ·rintro v28 H
     replace H:z2q v4 v5 v6 r7 x12 v18 v28=some r:=H
     unfold z2q at H
     refine yw (ι:=(List yx)) (fun i=>[(17,.row 5 i.length)]) (fun i=>[(5,.row 90 5 (List.map wh i))]) (fun i=>z2p i=some r) (fun i=>Z) ?_ ?_
     ·skip
      refine zc hN Z (za (zj vq Z) (ze (zl tyS3 Z Z) Z (za (qc Z Z) (qd Z (wb Z Z (fun hc=>zg (.dat _) Z) (za (jf Z (fun hb=>(cnd (c:=(decide (r7.2.1.State=4))) hb)) Z) (zi _ Z (fun h29 => ?_) (fun h29 => ?_))))))))
      ·refine tE h29 H fun H=>zc hN Z (za (zj Qp Z) (ze (zl tyS3 Z Z) Z (qd Z (za (yj _ Z Z (.inr (.inr ⟨Z,Z⟩))) (za (yj _ Z Z (.inr (.inl ⟨Z,Z⟩))) (gE H fun h30 H=>za (Qs Z Z h30.1 h30.2) (qe Z (zc hN Z (za (zj z1m Z) (ze (zl tyS3 Z Z) Z (qd Z (za (yj _ Z Z (.inr (.inl ⟨Z,Z⟩))) (za (yj _ Z Z (.inr (.inr ⟨Z,Z⟩))) (gE H fun h31 H=>za (Qs Z Z h31.1 h31.2) (qe Z (zc hN Z (qd Z (za (vn Z Z) (zi _ Z (fun h32 => ?_) (fun h32 => ?_))))))))))))))))))))
       ·refine tE h32 H fun H=>zq hN Z (za (zg (.row _ _) Z) (qd Z (qd Z (qd Z (gE H fun h33 H=>za (x01 Z h33) (za (yf (u':=vagg (wh (yx.mk v4 v5 [114,101,102,117,110,100] 0 (-((wr (x12.Base * (wr (29 - ((wr (r7.2.1.Since - (wr (v6 * 2592000000)))) / 86400000))))) / 30))))) (vj [(0,[vstr v4]),(1,[vstr v5]),(2,[vstr [114,101,102,117,110,100]]),(4,[vint (-((wr (x12.Base * (wr (29 - ((wr (r7.2.1.Since - (wr (v6 * 2592000000)))) / 86400000))))) / 30))])] z3m y0j Z ⟨Z,.inl ⟨_,Z,Z,Z⟩,Z,Z,.inl ⟨_,Z,Z,Z⟩,Z,Z,.inl ⟨_,Z,Z,Z⟩,Z,Z,.inl ⟨_,Z,Z,Z⟩,Z,U⟩) Z) (za (yf (u':=vlst (List.map wh [(yx.mk v4 v5 [114,101,102,117,110,100] 0 (-((wr (x12.Base * (wr (29 - ((wr (r7.2.1.Since - (wr (v6 * 2592000000)))) / 86400000))))) / 30)))])) (qa [_] xi ⟨Z,.inr Z,Z,U⟩ Z Z) Z) (gE H fun h34 H=>zd (je xi (fun _=>Z) Z Z Z ⟨by simp,by first | (simp; done) | simpa using h34⟩ Z) Z ?_))))))))
        exact za (qy (.row _ _) Z) ⟨(v28++([(yx.mk v4 v5 [114,101,102,117,110,100] 0 (-((wr (x12.Base * (wr (29 - ((wr (r7.2.1.Since - (wr (v6 * 2592000000)))) / 86400000))))) / 30)))])),H,⟨Z,U⟩,⟨Z,U⟩⟩
       ·exact fE h32 H fun H=>zp ⟨v28,H,⟨Z,U⟩,⟨Z,U⟩⟩
      ·exact fE h29 H fun H=>zp ⟨v28,H,⟨Z,U⟩,⟨Z,U⟩⟩
     ·rintro v35 H
      replace H:z2p v35=some r:=H
      unfold z2p at H
      refine zc hN Z (za (zg (.row _ _) Z) (za (qy (.row _ _) Z) (zn ?_)))
      cases H
      exact ⟨U,xn Z Z,U⟩
theorem w2a (s1:(List zm)) (s2:(List zm)) (p2:zm→zm→Option (Bool)) (fv2:Nat) (us2:List V) (hp2:∀ a0 a1 r,p2 a0 a1=some r→Fn Tryz.prog fv2 ([vagg (wg a0),vagg (wg a1)]++us2) (yc [zr r])) (r:(Bool)) (H:y2n s1 s2 p2=some r):Fn Tryz.prog 38 [vlst (List.map wg s1),vlst (List.map wg s2),vfn fv2 us2] (yc [zr r]):=by
 refine ⟨by kernel_rfl,yl (us:=[zr r]) Tryz.func38 Z Z Z Z fun X hN => ?_⟩
 unfold y2n at H
 refine zc hN Z (qe Z (zf (zc hN Z (qd Z (za (yu Qk Z) (qd Z (za (yu Qk Z) (za (vn Z Z) (zi _ Z (fun h3 => ?_) (fun h3 => ?_))))))))))
 ·refine tE h3 H fun H=>zc hN Z (qe Z (zn ?_))
  cases H
  exact ⟨U,.inl Z,U⟩
 ·refine fE h3 H fun H=>zp (zf (zc hN Z (qd Z (za (yu Qk Z) (qd Z (yd (gE H fun h6 H=>ve (fun (k4:Nat) (s:Unit)=>[(1,.dat (vlst (List.map wg s2))),(2,.dat (vfn fv2 us2)),(15,.dat (vlst (List.map wg s1))),(16,.dat (vint (s1.length:Int))),(17,.dat (vint (k4:Int)))]) (fun (k4:Nat) (s:Unit)=>[]) () H ⟨Z,Z,Z,Z,Z,U⟩ U (fun _ _=>Z) ?_ ?_)))))))
  ·rintro ⟨⟩ H
   replace H:y1c=some r:=H
   unfold y1c at H
   refine zc hN Z (za (ye Z Z) (zf (zi _ Z (fun h=>(lt_t h).elim) (fun h => ?_))))
   refine qk (zc hN Z (qe Z (zn ?_)))
   cases H
   exact ⟨U,.inl Z,U⟩
  ·rintro k4 x7 ⟨⟩ q5 h8 h9 H hq5
   replace H:z67 s2 p2 k4 x7=some q5:=H
   unfold z67 at H
   refine zc hN Z (za (ye Z Z) (zf (zi _ Z (fun h => ?_) (fun h=>(lt_f h8 h).elim))))
   refine zp (zf (yd (zc hN Z (qd Z (za (wq Zx (fun _=>Z) Z Z h9) (za (wo jh Z (qg h9) Z) (zd (qf 1 Ww Z) Z (qe Z (zd (yz jh Z Z Z Z) Z (zc hN Z (qd Z (qd Z (bE H fun x10 h11 H=>za (wq Zx (fun _=>Z) Z Z h11) (za (wo jh Z (qg h11) Z) (zd (qf 2 Ww Z) Z (zd (yz jh Z Z Z Z) Z (zc hN Z (qd Z (ze (yg jh Z Z Z) Z (ze (yg jh Z Z Z) Z (bE H fun r12 h13 H=>za (ua (hp2 x7 x10 r12 h13) Z ⟨.inl Z,.inl Z,U⟩) ?_)))))))))))))))))))))
   refine za (ww Z) (zi _ Z (fun h14 => ?_) (fun h14 => ?_))
   ·refine tE h14 H fun H=>zc hN Z (qe Z (zn ?_))
    replace H:=retl H hq5
    cases H
    exact ⟨U,.inl Z,U⟩
   ·exact fE h14 H fun H=>zp (zq hN Z (za (wa Z Z (by omega)) (qd Z ⟨_,qj H,⟨Z,Z,Z,Z,Z,U⟩,U⟩)))
theorem w19 (s1:(List yx)) (s2:(List yx)) (r:(Bool)) (H:y2m s1 s2=some r):Fn Tryz.prog 40 [vlst (List.map wh s1),vlst (List.map wh s2)] (yc [zr r]):=by
 refine ⟨by kernel_rfl,yl (us:=[zr r]) Tryz.func40 Z Z Z Z fun X hN => ?_⟩
 unfold y2m at H
 refine zc hN Z (qe Z (zf (zc hN Z (qd Z (za (yu z1j Z) (qd Z (za (yu z1j Z) (za (vn Z Z) (zi _ Z (fun h3 => ?_) (fun h3 => ?_))))))))))
 ·refine tE h3 H fun H=>zc hN Z (qe Z (zn ?_))
  cases H
  exact ⟨U,.inl Z,U⟩
 ·refine fE h3 H fun H=>zp (zf (zc hN Z (qd Z (za (yu z1j Z) (qd Z (yd (gE H fun h6 H=>ve (fun (k4:Nat) (s:Unit)=>[(0,.dat (vlst (List.map wh s1))),(1,.dat (vlst (List.map wh s2))),(12,.dat (vint (s1.length:Int))),(13,.dat (vint (k4:Int)))]) (fun (k4:Nat) (s:Unit)=>[]) () H ⟨Z,Z,Z,Z,U⟩ U (fun _ _=>Z) ?_ ?_)))))))
  ·rintro ⟨⟩ H
   replace H:y53=some r:=H
   unfold y53 at H
   refine zc hN Z (za (ye Z Z) (zf (zi _ Z (fun h=>(lt_t h).elim) (fun h => ?_))))
   refine qk (zc hN Z (qe Z (zn ?_)))
   cases H
   exact ⟨U,.inl Z,U⟩
  ·rintro k4 x7 ⟨⟩ q5 h8 h9 H hq5
   replace H:y52 s2 k4 x7=some q5:=H
   unfold y52 at H
   refine zc hN Z (za (ye Z Z) (zf (zi _ Z (fun h => ?_) (fun h=>(lt_f h8 h).elim))))
   refine zp (zf (yd (zc hN Z (qd Z (qe Z (zf (wl mixed hN Z Z (qd Z (qd Z (za (wq y0s (fun _=>Z) Z Z h9) (za (wo Wz Z (qg h9) Z) (qd Z (qd Z (bE H fun x10 h11 H=>za (wq y0s (fun _=>Z) Z Z h11) (za (wo Wz Z (qg h11) Z) (za (x8q [_,_,_,_,_] [_,_,_,_,_] x6v Z Z Z) ⟨Z,?_⟩))))))))))))))))
   refine zi _ Z (fun h12 => ?_) (fun h12 => ?_)
   ·refine tE h12 H fun H=>zc hN Z (qe Z (zn ?_))
    replace H:=retl H hq5
    cases H
    exact ⟨U,.inl Z,U⟩
   ·exact fE h12 H fun H=>zp (zq hN Z (za (wa Z Z (by omega)) (qd Z ⟨_,qj H,⟨Z,Z,Z,Z,U⟩,U⟩)))
theorem w3j (x1:zm) (y2:zm) (r:(Bool)) (H:z2g x1 y2=some r):Fn Tryz.prog 39 [vagg (wg x1),vagg (wg y2)] (yc [zr r]):=by
 refine ⟨by kernel_rfl,yl (us:=[zr r]) Tryz.func39 Z Z Z Z fun X hN => ?_⟩
 unfold z2g at H
 refine zc hN Z (zd (qr 1 Z) Z (zd (qr 2 Z) Z (qe Z (yw (ι:=Bool) (fun i=>[(4,.dat (zr i))]) (fun i=>[]) (fun i=>z00 i=some r) (fun i=>Z) ?_ ?_))))
 ·skip
  refine zq hN Z (za (zj z3r Z) (ze (zl tyS9 Z Z) Z (za (zj z3r Z) (ze (zl tyS9 Z Z) Z (za (Yt Z Z) (qd Z (qv (j:=5) Z Z (fun h3 => ?_) (fun h3 => ?_) Z)))))))
  ·refine u1 h3 H fun h4 H=>zo Z Z h3 (zj y0p Z) (wc Z Z h3 (zl tyS3 Z Z) Z (zo Z Z h3 (zj y0p Z) (wc Z Z h3 (zl tyS3 Z Z) Z (zo Z Z h3 (qc Z Z) (za (qt Z (bTT h4) Z) (qd Z (qv (j:=12) Z Z (fun h5 => ?_) (fun h5 => ?_) Z)))))))
   ·refine u1 h5 H fun h6 H=>zo Z Z h5 (zj xk Z) (wc Z Z h5 (zl tyS3 Z Z) Z (zo Z Z h5 (zj xk Z) (wc Z Z h5 (zl tyS3 Z Z) Z (zo Z Z h5 (qc Z Z) (za (qt Z (bTT h6) Z) (qd Z (qv (j:=19) Z Z (fun h7 => ?_) (fun h7 => ?_) Z)))))))
    ·exact u1 h7 H fun h8 H=>zo Z Z h7 (zj z0e Z) (wc Z Z h7 (zl Zu Z Z) Z (zo Z Z h7 (zj z0e Z) (wc Z Z h7 (zl Zu Z Z) Z (bE H fun r9 h10 H=>zo Z Z h7 (yb (w19 x1.Lines y2.Lines r9 h10) ⟨.inl Z,.inl Z,U⟩) (za (qt Z (bTT h8) Z) (qe Z ⟨r9,H,⟨Z,U⟩,U⟩))))))
    ·exact u2 h7 H fun h11 H=>zh Z Z h7 (zh Z Z h7 (zh Z Z h7 (zh Z Z h7 (zh Z Z h7 (za (yq Z (bFF h11) Z) (qe Z ⟨false,H,⟨Z,U⟩,U⟩))))))
   ·exact u2 h5 H fun h12 H=>zh Z Z h5 (zh Z Z h5 (zh Z Z h5 (zh Z Z h5 (zh Z Z h5 (za (yq Z (bFF h12) Z) (qd Z (zh Z Z Z (zh Z Z Z (zh Z Z Z (zh Z Z Z (zh Z Z Z (za (yq Z Z Z) (qe Z ⟨false,H,⟨Z,U⟩,U⟩)))))))))))))
  ·exact u2 h3 H fun h13 H=>zh Z Z h3 (zh Z Z h3 (zh Z Z h3 (zh Z Z h3 (zh Z Z h3 (za (yq Z (bFF h13) Z) (qd Z (zh Z Z Z (zh Z Z Z (zh Z Z Z (zh Z Z Z (zh Z Z Z (za (yq Z Z Z) (qd Z (zh Z Z Z (zh Z Z Z (zh Z Z Z (zh Z Z Z (zh Z Z Z (za (yq Z Z Z) (qe Z ⟨false,H,⟨Z,U⟩,U⟩))))))))))))))))))))
 ·rintro v14 H
  replace H:z00 v14=some r:=H
  unfold z00 at H
  refine zn ?_
  cases H
  exact ⟨U,.inl Z,U⟩
theorem w3k (a1:(List zm)) (b2:(List zm)) (r:(Bool)) (H:z8m a1 b2=some r):Fn Tryz.prog 16 [vlst (List.map wg a1),vlst (List.map wg b2)] (yc [zr r]):=by
 refine ⟨by kernel_rfl,yl (us:=[zr r]) Tryz.func16 Z Z Z Z fun X hN => ?_⟩
 unfold z8m at H
 refine zc hN Z (qe Z (zc hN Z (qd Z (qd Z (bE H fun r3 h4 H=>za (z3x (w2a a1 b2 (fun (a0:zm) (a1:zm)=>z2g a0 a1) 39 [] (fun a0 a1 r h=>w3j a0 a1 r h) r3 h4) ⟨.inl (.inl Z),.inl (.inl Z),.inr ⟨_,Z,Z⟩,U⟩) (qe Z (zn ?_)))))))
 cases H
 exact ⟨U,.inl Z,U⟩
theorem w14 (l:Bs) (c r:Int) (H:y68 l c=some r):Fn Tryz.prog 166 [vstr l,vval (.int .u8 c)] (yc [vint r]):=by
 cases H
 refine y8h (by kernel_rfl) fun M w vs h => ?_
 have h1:=y4l (us:=[.string ⟨l.toArray⟩,.int .u8 c]) h
 subst h1
 refine (Tryz.strings_IndexByte ⟨l.toArray⟩ c w).mono ?_
 rintro e w' ⟨rfl,rfl⟩
 exact ⟨_,Z,Z,Kp.refl _ _⟩
theorem x3o (s1:Bs) (some2:Bs) (r:(Bool)) (H:z4q s1 some2=some r):Fn Tryz.prog 134 [vstr s1,vstr some2] (yc [zr r]):=by
 refine ⟨by kernel_rfl,yl (us:=[zr r]) Tryz.func134 Z Z Z Z fun X hN => ?_⟩
 unfold z4q at H
 refine zc hN Z (qe Z (zf (zc hN Z (qd Z (za (z6y tyU9 Z) (qd Z (yd (gE H fun h5 H=>ve (fun (k3:Nat) (s:Unit)=>[(0,.dat (vstr s1)),(1,.dat (vstr some2)),(7,.dat (vint (s1.length:Int))),(8,.dat (vint (k3:Int)))]) (fun (k3:Nat) (s:Unit)=>[]) () H ⟨Z,Z,Z,Z,U⟩ U (fun _ _=>Z) ?_ ?_))))))))
 ·rintro ⟨⟩ H
  replace H:y7z=some r:=H
  unfold y7z at H
  refine zc hN Z (za (ye Z Z) (zf (zi _ Z (fun h=>(lt_t h).elim) (fun h => ?_))))
  refine qk (zc hN Z (qe Z (zn ?_)))
  cases H
  exact ⟨U,.inl Z,U⟩
 ·rintro k3 x6 ⟨⟩ q4 h7 h8 H hq4
  replace H:y3b some2 k3 x6=some q4:=H
  unfold y3b at H
  refine zc hN Z (za (ye Z Z) (zf (zi _ Z (fun h => ?_) (fun h=>(lt_f h7 h).elim))))
  refine zp (zf (yd (zc hN Z (qd Z (qe Z (zc hN Z (qd Z (qd Z (qd Z (za (x0u tyU9 Z Z h8) (bE H fun r9 h10 H=>za (yb (w14 some2 (x6.toNat:Int) r9 h10) ⟨.inl Z,.inl Z,U⟩) (za (ye Z Z) (zi _ Z (fun h11 => ?_) (fun h11 => ?_))))))))))))))
  ·refine tE h11 H fun H=>zc hN Z (qe Z (zn ?_))
   replace H:=retl H hq4
   cases H
   exact ⟨U,.inl Z,U⟩
  ·exact fE h11 H fun H=>zp (zq hN Z (za (wa Z Z (by omega)) (qd Z ⟨_,qj H,⟨Z,Z,Z,Z,U⟩,U⟩)))
theorem z9d (s1:Bs) (r:(Bool)) (H:Qz s1=some r):Fn Tryz.prog 89 [vstr s1] (yc [zr r]):=by
 refine ⟨by kernel_rfl,yl (us:=[zr r]) Tryz.func89 Z Z Z Z fun X hN => ?_⟩
 unfold Qz at H
 refine zc hN Z (qe Z (yw (ι:=Bool) (fun i=>[(2,.dat (zr i))]) (fun i=>[]) (fun i=>z23 i=some r) (fun i=>Z) ?_ ?_))
 ·skip
  refine zq hN Z (qd Z (za (z6y tyU9 Z) (bE H fun r2 h3 H=>za (yb (Zp (s1.length:Int) 1 40 r2 h3) ⟨.inl Z,.inl Z,.inl Z,U⟩) (qd Z (qv (j:=3) Z Z (fun h4 => ?_) (fun h4 => ?_) Z)))))
  ·refine u1 h4 H fun h5 H=>zo Z Z h4 (zg (.dat _) Z) (bE H fun l6 h7 H=>zo Z Z h4 (x67 tyU9 Z Z Z h7) (bE H fun r8 h9 H=>zo Z Z h4 (yb (x3o l6 [97,98,99,100,101,102,103,104,105,106,107,108,109,110,111,112,113,114,115,116,117,118,119,120,121,122] r8 h9) ⟨.inl Z,.inl Z,U⟩) (za (qt Z (bTT h5) Z) (qd Z (qv (j:=8) Z Z (fun h10 => ?_) (fun h10 => ?_) Z)))))
   ·exact u1 h10 H fun h11 H=>zo Z Z h10 (zg (.dat _) Z) (bE H fun r12 h13 H=>zo Z Z h10 (yb (x3o s1 [97,98,99,100,101,102,103,104,105,106,107,108,109,110,111,112,113,114,115,116,117,118,119,120,121,122,48,49,50,51,52,53,54,55,56,57,45,95] r12 h13) ⟨.inl Z,.inl Z,U⟩) (za (qt Z (bTT h11) Z) (qe Z ⟨r12,H,⟨Z,U⟩,U⟩)))
   ·exact u2 h10 H fun h14 H=>zh Z Z h10 (zh Z Z h10 (za (yq Z (bFF h14) Z) (qe Z ⟨false,H,⟨Z,U⟩,U⟩)))
  ·exact u2 h4 H fun h15 H=>zh Z Z h4 (zh Z Z h4 (zh Z Z h4 (za (yq Z (bFF h15) Z) (qd Z (zh Z Z Z (zh Z Z Z (za (yq Z Z Z) (qe Z ⟨false,H,⟨Z,U⟩,U⟩))))))))
 ·rintro v16 H
  replace H:z23 v16=some r:=H
  unfold z23 at H
  refine zn ?_
  cases H
  exact ⟨U,.inl Z,U⟩
theorem w15 (s1:(List yh)) (p1:yh→Option (Bool)) (fv1:Nat) (us1:List V) (hp1:∀ a0 r,p1 a0=some r→Fn Tryz.prog fv1 ([vagg (yt a0)]++us1) (yc [zr r])) (r:(Int)) (H:y2j s1 p1=some r):Fn Tryz.prog 74 [vlst (List.map yt s1),vfn fv1 us1] (yc [vint r]):=by
 refine ⟨by kernel_rfl,yl (us:=[vint r]) Tryz.func74 Z Z Z Z fun X hN => ?_⟩
 unfold y2j at H
 refine zc hN Z (qe Z (zf (zc hN Z (qd Z (za (yu z1k Z) (qd Z (yd (gE H fun h4 H=>ve (fun (k2:Nat) (s:Unit)=>[(0,.dat (vlst (List.map yt s1))),(1,.dat (vfn fv1 us1)),(7,.dat (vint (s1.length:Int))),(8,.dat (vint (k2:Int)))]) (fun (k2:Nat) (s:Unit)=>[]) () H ⟨Z,Z,Z,Z,U⟩ U (fun _ _=>Z) ?_ ?_))))))))
 ·rintro ⟨⟩ H
  replace H:y5v=some r:=H
  unfold y5v at H
  refine zc hN Z (za (ye Z Z) (zf (zi _ Z (fun h=>(lt_t h).elim) (fun h => ?_))))
  refine qk (zc hN Z (qe Z (zn ?_)))
  cases H
  exact ⟨U,.inl Z,U⟩
 ·rintro k2 x5 ⟨⟩ q3 h6 h7 H hq3
  replace H:y5u p1 k2 x5=some q3:=H
  unfold y5u at H
  refine zc hN Z (za (ye Z Z) (zf (zi _ Z (fun h => ?_) (fun h=>(lt_f h6 h).elim))))
  refine zp (zf (yd (zc hN Z (qd Z (qe Z (zc hN Z (qd Z (qd Z (qd Z (za (wq z1q (fun _=>Z) Z Z h7) (za (wo Qm Z (qg h7) Z) (bE H fun r8 h9 H=>za (ua (hp1 x5 r8 h9) Z ⟨.inl Z,U⟩) (zi _ Z (fun h10 => ?_) (fun h10 => ?_))))))))))))))
  ·refine tE h10 H fun H=>zc hN Z (qd Z (qe Z (zn ?_)))
   replace H:=retl H hq3
   cases H
   exact ⟨U,.inl Z,U⟩
  ·exact fE h10 H fun H=>zp (zq hN Z (za (wa Z Z (by omega)) (qd Z ⟨_,qj H,⟨Z,Z,Z,Z,U⟩,U⟩)))
theorem w3l (p1:yh) (c2:Bs) (r:(Bool)) (H:z4u p1 c2=some r):Fn Tryz.prog 75 [vagg (yt p1),qw [[vstr c2]] 0 0] (yc [zr r]):=by
 refine ⟨by kernel_rfl,yl (us:=[zr r]) Tryz.func75 Z Z Z Z fun X hN => ?_⟩
 unfold z4u at H
 refine zc hN Z (zd (qr 1 Z) Z (qe Z (zc hN Z (za (zj Qo Z) (ze (zl tyS9 Z Z) Z (za (wy tyS9 Z Z Z) (za (Yt Z Z) (qe Z (zn ?_)))))))))
 cases H
 exact ⟨U,.inl Z,U⟩
theorem y7s (c1:zx) (key2:Bs) (r:(Int)) (H:z2h c1 key2=some r):Fn Tryz.prog 33 [vagg (yy c1),vstr key2] (yc [vint r]):=by
 refine ⟨by kernel_rfl,yl (us:=[vint r]) Tryz.func33 Z Z Z Z fun X hN => ?_⟩
 unfold z2h at H
 refine zc hN Z (zd (qr 1 Z) Z (zd (Yu 2 Z Z) Z (qe Z (zf (z1c 2 [vstr key2] Z Z (zq hN Z (za (zj z0f Z) (ze (zl z0b Z Z) Z (za (z0j (us:=[_]) ⟨Z,U⟩) (bE H fun r3 h4 H=>za (yb (w15 c1.Products (fun (a0:yh)=>z4u a0 key2) 75 [qw [[vstr key2]] 0 0] (fun a0 r h=>w3l a0 key2 r h) r3 h4) ⟨.inl Z,.inl Z,U⟩) (qe Z (zn ?_))))))))))))
 cases H
 exact ⟨U,.inl Z,U⟩
end Go.Proofs.YtnnfdgngnoamoaaGreatDoor
