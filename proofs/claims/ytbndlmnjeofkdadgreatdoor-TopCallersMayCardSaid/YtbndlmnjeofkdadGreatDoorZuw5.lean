/- Walks along the models. Printed by a program. -/
import Derived.Test.YtbndlmnjeofkdadGreatDoorZuw4
namespace Go.Proofs.YtbndlmnjeofkdadGreatDoor
open Go.RowKit
set_option linter.unusedVariables false
set_option maxRecDepth 100000
set_option maxHeartbeats 2000000
theorem y9g (n1:Int) (r:(Bool)) (H:z11 n1=some r):Fn Tryz.prog 67 [vint n1] (zu [zf r]):=by
 refine ⟨by kernel_rfl,zy (us:=[zf r]) Tryz.func67 Z Z Z Z fun X hN => ?_⟩
 unfold z11 at H
 refine zb hN Z (qe Z (zb hN Z (qd Z (za (wy Z Z) (qd Z (qa Z Z (fun hc=>zi (.dat _) Z) (qa Z Z (fun hc=>zw (cnd (c:=(decide (0≤n1))) hc) Z) (za (wx Z (fun hb=>(cnd (c:=(decide (0≤n1))) hb)) Z) (qe Z (zh ?_))))))))))
 cases H
 exact ⟨U,.inl Z,U⟩
theorem y80 (v1:Int) (r:(Int)) (H:z1p v1=some r):Fn Tryz.prog 30 [vint v1] (zu [vint r]):=by
 refine ⟨by kernel_rfl,zy (us:=[vint r]) Tryz.func30 Z Z Z Z fun X hN => ?_⟩
 unfold z1p at H
 refine zb hN Z (qe Z (ze (zb hN Z (qd Z (bE H fun r2 h3 H=>za (zl (y9g v1 r2 h3) ⟨.inl Z,U⟩) (za (yt Z) (zg _ Z (fun h4 => ?_) (fun h4 => ?_))))))))
 ·refine tE h4 H fun H=>zb hN Z (qe Z (zh ?_))
  cases H
  exact ⟨U,.inl Z,U⟩
 ·refine fE h4 H fun H=>zj (zb hN Z (qe Z (zh ?_)))
  cases H
  exact ⟨U,.inl Z,U⟩
theorem x9s (l:List yh):Fn Tryz.prog 68 [vlst (List.map wm l)] (zu [vfn 107 [qh [[vlst (List.map wm l)]] 0 0]]):=by
 refine ⟨by kernel_rfl,zy (us:=[vfn 107 [qh [[vlst (List.map wm l)]] 0 0]]) Tryz.func68 Z Z Z Z fun X hN => ?_⟩
 exact zb hN Z (zk (Qu 1 Z Z) Z (qe Z (ze (kr 1 [vlst (List.map wm l)] Z Z (zt hN Z (za (xb (us:=[_]) ⟨Z,U⟩) (qe Z (zh ⟨U,.inl Z,U⟩))))))))
theorem w00:x1l Tryz.prog 107 5 false:=by
 intro vals M l cap J Jx W hn hvn hk hc hY h0
 have hnt:Tryz.f107.ntmps=19:=Z
 refine callsIn_of_wp Tryz.func107 Z U ?_ Z
 rw [hnt]
 obtain ⟨vc,hvc⟩:∃ vc:V,vc=vand (qh [[vlst (vals.map fun c=>c.map vval)]] 0 0) cap:=⟨_,rfl⟩
 have hwk:Wk vc (qh [[vlst (vals.map fun c=>c.map vval)]] 0 0):=by rw [hvc]; exact x1s _ _
 have hvm:∀ W',(qh [[vlst (vals.map fun c=>c.map vval)]] 0 0).p W' M cap→vc.p W' M cap:=fun W' h=>by rw [hvc]; exact ⟨Z,h⟩
 have hvo:∀ W' M' v,vc.p W' M' v→v=cap:=fun W' M' v h=>by rw [hvc] at h; exact h.1
 obtain ⟨hM,hcp⟩:=hc _ _ h0
 refine wpIn_seq (wpIn_mono (z8o (N:=19) hM ?hN ?hD [(0,vval (yv l)),(1,vc)] ?hr (Q:=fun e f=>e = .normal∧f 0 = .dat (vval (yv l))∧f 1 = .dat vc∧f 3 = .dat (vint ((vals.length:Int) - 1))) fun X hN => ?_) ?_)
 case hN=>simp
 case hD=>rfl
 case hr=>exact ⟨by simp [yv,vval],by simpa using hvm _ hcp,trivial⟩
 ·exact zt hN Z (za (y6z z3g Z hwk Z Z) (za (yo (C:=fun c:List Value=>c.map vval) z7f Z) (za (z34 Z Z (by omega)) (qe Z ⟨Z,Z,Z,Z⟩))))
 rintro e a W1 ⟨hk1,hN,hD,f,own,g,M',hfr,rfl,e0,e1,e3⟩
 have t0:a.tmps.getD 0 undef=yv l:=by have:=hfr 0; rw [e0] at this; exact this
 have t1:a.tmps.getD 1 undef=cap:=by have:=hfr 1; rw [e1] at this; exact hvo _ _ _ this
 have t3:a.tmps.getD 3 undef = .int .i64 ((vals.length:Int) - 1):=by have:=hfr 3; rw [e3] at this; exact this
 refine wpIn_block (wpIn_loop_rounds (vals.length+1) ?_)
 have hJ1:=hk _ _ _ h0 hk1
 clear hk1 hfr e0 e1 e3 hcp hM h0
 suffices key:∀ m,m≤vals.length→∀ a W,a.tmps.size=19→a.defers=[]→a.tmps.getD 0 undef=yv l→a.tmps.getD 1 undef=cap→a.tmps.getD 3 undef = .int .i64 ((m:Int) - 1)→J m W→Code.roundsIn Fence.wide 0 Tryz.prog _ _ (m+1) a W from key _ (Nat.le_refl _) a W1 hN hD t0 t1 t3 hJ1
 clear t0 t1 t3 hN hD hJ1
 intro m
 induction m with
 | zero =>
  intro _ a W hN hD t0 t1 t3 hJ
  obtain ⟨hM,hcp⟩:=hc _ _ hJ
  rw [roundsIn_succ]
  refine wpIn_seq (wpIn_seq (wpIn_mono (z8o (N:=19) hM hN hD [(3,vint (-1))] ⟨by rw [t3]; rfl,trivial⟩ (Q:=fun e f=>e = .normal∧f 8 = .dat (zf (decide ((0:Int)≤-1)))) fun X hN => ?_) ?_))
  ·exact zt hN Z (qd Z (za (wy Z Z) ⟨Z,Z⟩))
  rintro e a' W' ⟨hk1,hN',hD',f,own,g,M',hfr,rfl,e8⟩
  have t8:a'.tmps.getD 8 undef = .bool false:=by have:=hfr 8; rw [e8] at this; exact this
  exact wpIn_cond_false t8 (wpIn_exit ⟨hD',_,results_none Z _ _ _,⟨_,Z⟩,.inl (hk _ _ _ hJ hk1)⟩)
 | succ m ih =>
  intro hm a W hN hD t0 t1 t3 hJ
  obtain ⟨hM,hcp⟩:=hc _ _ hJ
  have hm3:(((m+1:Nat):Int) - 1)=(m:Int):=by omega
  rw [hm3] at t3
  rw [roundsIn_succ]
  refine wpIn_seq (wpIn_seq (wpIn_mono (z8o (N:=19) hM hN hD [(0,vval (yv l)),(1,vc),(3,vint (m:Int))] ⟨t0,by rw [t1]; exact hvm _ hcp,by rw [t3]; rfl,trivial⟩ (Q:=fun e f=>e = .normal∧f 0 = .dat (vval (yv l))∧f 1 = .dat vc∧f 3 = .dat (vint (m:Int))∧f 8 = .dat (zf (decide ((0:Int)≤(m:Int))))) fun X hN => ?_) ?_))
  ·exact zt hN Z (qd Z (za (wy Z Z) ⟨Z,Z,Z,Z,Z⟩))
  rintro e a1 W1 ⟨hk1,hN1,hD1,f,own,g,M',hfr,rfl,e0,e1,e3,e8⟩
  have u0:a1.tmps.getD 0 undef=yv l:=by have:=hfr 0; rw [e0] at this; exact this
  have u1:a1.tmps.getD 1 undef=cap:=by have:=hfr 1; rw [e1] at this; exact hvo _ _ _ this
  have u3:a1.tmps.getD 3 undef = .int .i64 (m:Int):=by have:=hfr 3; rw [e3] at this; exact this
  have u8:a1.tmps.getD 8 undef = .bool true:=by
   have:=hfr 8; rw [e8,decide_eq_true (by omega)] at this; exact this
  refine wpIn_cond_true u8 (wpIn_skip ?_)
  have hJ1:=hk _ _ _ hJ hk1
  clear hfr e0 e1 e3 e8 hk1 hJ hM hcp t0 t1 t3 hN hD
  obtain ⟨hM1,hcp1⟩:=hc _ _ hJ1
  refine wpIn_seq (wpIn_block (wpIn_seq ?_))
  refine wpIn_region ?_
  obtain ⟨X,hX⟩:∃ X:Ctx,X=⟨fun b=>M b,W1,[],19,none,[]⟩:=⟨_,rfl⟩
  have hrel:Rel X (frs (datL [(0,vval (yv l)),(1,vc),(3,vint (m:Int))])) (fun _=>none) ⟨fun _=>none,fun _ _=>none⟩ a1 W1:=by
   subst hX
   have he:Ext M (Mof ⟨fun b=>M b,W1,[],19,none,[]⟩ ⟨fun _=>none,fun _ _=>none⟩ (fun _=>none)) W1 W1:=⟨Nat.le_refl _,fun _ _ _ _=>Z,fun b _ hb=>by
    rcases hb with hb | ⟨id,o,ho,_⟩
    ·exact hb
    ·cases ho⟩
   refine ⟨Kp.refl _ _,⟨fun b hb=>⟨hM1.1 b hb,by simp⟩,hM1.2.1,fun b hb=>⟨hM1.2.2 b hb,by simp⟩⟩,hN1,hD1,fun t=>z8r [(0,vval (yv l)),(1,vc),(3,vint (m:Int))] ⟨u0,by rw [u1]; exact vc.keep he (hvm _ hcp1),by rw [u3]; rfl,trivial⟩ t,fun id o ho=>(by cases ho),fun id _ o _ b ho=>(by cases ho),fun id o b ho=>(by cases ho),fun id _=>⟨rfl,fun _=>rfl⟩,fun id e size es h=>(by cases h)⟩
  have hNX:X.N=19:=by rw [hX]
  have hRX:X.R=none:=by rw [hX]
  have hDX:X.D=[]:=by rw [hX]
  have hKX:∀ W',Kp X.S0 X.w0 W'→Kp [] W1 W':=fun W' h=>by rw [hX] at h; exact h
  obtain ⟨el,hel⟩:∃ el,vals[m]?=some el:=⟨_,List.getElem?_eq_getElem (by omega)⟩
  have hell:(el.map vval).length=5:=by rw [List.length_map]; exact hvn el (List.mem_of_getElem? hel)
  have helm:(vals.map fun c=>c.map vval)[m]?=some (el.map vval):=by rw [List.getElem?_map,hel]; rfl
  have helD:vals.getD m []=el:=by rw [List.getD_eq_getElem?_getD,hel]; rfl
  clear hX
  refine opsR hRX (n:=6+2) rfl (y7p (P:=Tryz.prog) (X:=X) (by rw [hNX]; rfl) [_,_,_,_,_,_] [_,_] 0 _ _ [] _ a1 W1 rfl hrel ?_)
  refine qd Z (qd Z (za (y6z z3g Z hwk Z Z) (qd Z ?_)))
  refine za (y17 (k:=m) Zw Z Z (by rw [List.length_map]; omega) (fun c hc=>by
   obtain ⟨c',hc',rfl⟩:=List.mem_map.1 hc
   rw [List.length_map]; exact hvn c' hc')) ?_
  refine za (ke ui Z helm hell) ?_
  intro g2 a2 W2 k2
  have v0:a2.tmps.getD 0 undef=yv l:=k2.fr 0
  have v1:a2.tmps.getD 1 undef=cap:=hvo _ _ _ (k2.fr 1)
  have v3:a2.tmps.getD 3 undef = .int .i64 (m:Int):=k2.fr 3
  have v11:a2.tmps.getD 11 undef=yv l:=k2.fr 11
  have v12:a2.tmps.getD 12 undef = .int .i64 (m:Int):=k2.fr 12
  have v16:a2.tmps.getD 16 undef = .agg el.toArray:=by
   obtain ⟨lv,h1,h2,h3⟩:(vagg (el.map vval)).p W2 _ (a2.tmps.getD 16 undef):=k2.fr 16
   rw [h1]
   have:lv=el:=by
    apply List.ext_getElem?
    intro j
    rcases Nat.lt_or_ge j el.length with hj | hj
    ·obtain ⟨y,p1,p2,_⟩:=h3 j (vval el[j]) (by rw [List.getElem?_map,List.getElem?_eq_getElem hj]; rfl)
     rw [p1,List.getElem?_eq_getElem hj]; exact congrArg some p2
    ·rw [List.getElem?_eq_none hj,List.getElem?_eq_none (by rw [List.length_map] at h2; omega)]
   rw [this]
  have hN2:a2.tmps.size=19:=k2.n.trans hNX
  have hD2:a2.defers=[]:=k2.df.trans hDX
  have hJ2:=hk _ _ _ hJ1 (hKX _ k2.kp)
  clear k2 hrel
  obtain ⟨fn,tm,asg,bdy,hrun,hR⟩:=hY m W2 (by omega) hJ2
  rw [helD] at hrun
  change (Instr.yield l #[.int .i64 (m:Int),.agg el.toArray]).run Tryz.prog W2=_ at hrun
  rw [hRX]
  show wpOpsIn Fence.wide 0 Tryz.prog _ _ [6,7] a2 W2
  refine x1o Z Z Z v11 (by simp [Act.eval,v12,v16]) hrun (hR.mono ?_)
  rintro e W3 (⟨rfl,hJ3⟩ | ⟨rfl,hJ3⟩)
  ·obtain ⟨hM3,hcp3⟩:=hc _ _ hJ3
   refine ⟨_,Z,?_⟩
   obtain ⟨a3,ha3⟩:∃ a3:Act,a3=a2.put (some 17) (.bool true):=⟨_,rfl⟩
   have hN3:a3.tmps.size=19:=by rw [ha3]; simpa [Act.put] using hN2
   have hD3:a3.defers=[]:=by rw [ha3]; exact hD2
   have g3:∀ t,a3.tmps.getD t undef=if t=17 then .bool true else a2.tmps.getD t undef:=fun t=>by rw [ha3]; exact z62 hN2 (by decide) t
   show wpOpsIn Fence.wide 0 Tryz.prog _ _ (List.range' 7 1) (a2.put (some 17) (.bool true)) W3
   rw [← ha3]
   refine opsT (N:=19) (i:=7) (os:=[_]) hM3 hN3 hD3 [(0,vval (yv l)),(1,vc),(3,vint (m:Int)),(17,zf true)] ⟨?_,?_,?_,?_,U⟩ (Q':=fun f=>f 0 = .dat (vval (yv l))∧f 1 = .dat vc∧f 3 = .dat (vint (m:Int))∧f 18 = .dat (zf (!true))) Z Z (fun _ _ => ?_) ?_
   ·show _=_
    rw [g3,if_neg (by decide)]; exact v0
   ·rw [g3,if_neg (by decide),v1]; exact hvm _ hcp3
   ·show _=_
    rw [g3,if_neg (by decide)]; exact v3
   ·show _=_
    rw [g3,if_pos Z]
   ·exact za (yt Z) ⟨Z,Z,Z,Z⟩
   intro a4 W4 hk4 hN4 hD4 f g M' hfr ⟨e0,e1,e3,e18⟩
   have z0:a4.tmps.getD 0 undef=yv l:=by have:=hfr 0; rw [e0] at this; exact this
   have z1:a4.tmps.getD 1 undef=cap:=by have:=hfr 1; rw [e1] at this; exact hvo _ _ _ this
   have z3:a4.tmps.getD 3 undef = .int .i64 (m:Int):=by have:=hfr 3; rw [e3] at this; exact this
   have z18:a4.tmps.getD 18 undef = .bool false:=by have:=hfr 18; rw [e18] at this; exact this
   refine wpIn_cond_false z18 (wpIn_skip ?_)
   have hJ4:=hk _ _ _ hJ3 hk4
   obtain ⟨hM4,hcp4⟩:=hc _ _ hJ4
   refine wpIn_mono (z8o (N:=19) hM4 hN4 hD4 [(0,vval (yv l)),(1,vc),(3,vint (m:Int))] ⟨z0,by rw [z1]; exact hvm _ hcp4,by rw [z3]; rfl,trivial⟩ (Q:=fun e f=>e = .normal∧f 0 = .dat (vval (yv l))∧f 1 = .dat vc∧f 3 = .dat (vint ((m:Int) - 1))) fun X hN => ?_) ?_
   ·exact zt hN Z (qd Z (za (z34 Z Z (by omega)) (qe Z ⟨Z,Z,Z,Z⟩)))
   rintro e a5 W5 ⟨hk5,hN5,hD5,f5,own5,g5,M5,hfr5,rfl,e0,e1,e3⟩
   exact ih (by omega) a5 W5 hN5 hD5 (by have:=hfr5 0; rw [e0] at this; exact this) (by have:=hfr5 1; rw [e1] at this; exact hvo _ _ _ this) (by have:=hfr5 3; rw [e3] at this; exact this) (hk _ _ _ hJ4 hk5)
  ·refine ⟨_,Z,?_⟩
   obtain ⟨a3,ha3⟩:∃ a3:Act,a3=a2.put (some 17) (.bool false):=⟨_,rfl⟩
   show wpOpsIn Fence.wide 0 Tryz.prog _ _ [7] (a2.put (some 17) (.bool false)) W3
   rw [← ha3]
   have g3:∀ t,a3.tmps.getD t undef=if t=17 then .bool false else a2.tmps.getD t undef:=fun t=>by rw [ha3]; exact z62 hN2 (by decide) t
   have hN3:a3.tmps.size=19:=by rw [ha3]; simpa [Act.put] using hN2
   have hD3:a3.defers=[]:=by rw [ha3]; exact hD2
   have v17:a3.tmps.getD 17 undef = .bool false:=by rw [g3,if_pos Z]
   rw [wpOpsIn_cons]
   unfold wpOpIn
   refine ⟨fun _ _=>U,?_⟩
   have hrun:∀ o:Oper,o.op = .unOp .not 4 (.tmp 17)→(o.semAt Fence.wide.round a3.eval).run Tryz.prog W3 = .ok (.value (.bool true)) W3:=fun o ho=>by
    rw [Oper.semAt_eq Fence.wide.round a3.eval o (fun c hc=>by rw [ho] at hc; cases hc)]
    have h1:a3.eval (.tmp 17) = .bool false:=v17
    simp only [execOp,ho,h1,Op.unary]
    rfl
   rw [hrun _ Z,Oper.uponIn_value]
   have t18:(a3.put (some 18) (.bool true)).tmps.getD 18 undef = .bool true:=by rw [show (a3.put (some 18) (.bool true)).tmps=a3.tmps.setIfInBounds 18 (.bool true) from Z,z62 hN3 (by decide),if_pos Z]
   exact wpIn_cond_true t18 (wpIn_ret ⟨hD3,_,results_none Z _ _ _,⟨_,Z⟩,.inr hJ3⟩)

theorem x8j (l1:(List yh)) (v2:Int) (r:(yh×Bool)) (H:z4r l1 v2=some r):Fn Tryz.prog 31 [vlst (List.map wm l1),vint v2] (zu [vagg (wm r.1),zf r.2]):=by
 refine ⟨by kernel_rfl,x6r (us:=[vagg (wm r.1),zf r.2]) Tryz.func31 Z Z Z Z fun X hN hR => ?_⟩
 unfold z4r at H
 refine w3a hR (zt hN Z (zk (Qu 1 Z Z) Z (zk (qr 2 z0o Z) Z (zk (qr 3 tyZ4 Z) Z (w3b hR (zt hN Z (qd Z (za (zl (x9s l1) ⟨.inl Z,U⟩) ⟨Z,?_⟩))))))))
 refine gE H fun h4 H=>x6p (s0:=()) hR hN [(3,.ptr 1 0),(4,.ptr 2 0),(5,.ptr 3 0),(9,.dat (vfn 107 [qh [[vlst (List.map wm l1)]] 0 0]))] [(1,.box none 3 [.dat (vint v2)]),(2,.box none 31 [.dat (vstr []),.dat (vstr []),.dat (vint 0),.dat (vint 0),.dat (vint 0)]),(3,.box none 4 [.dat (zf false)])] (fun (s:Unit)=>[(1,.box none 3 [.dat (vint v2)]),(2,.box none 31 [.dat (vstr []),.dat (vstr []),.dat (vint 0),.dat (vint 0),.dat (vint 0)]),(3,.box none 4 [.dat (zf false)])]) w00 (fun _=>Z) (enters_of Tryz.func107 (by kernel_rfl) Z) Z h4 H ⟨Z,Z,Z,Z,U⟩ ⟨Z,Z,Z,U⟩ Z Z (fun _=>Z) (fun _=>Z) (fun _ _=>Z) (fun _ _=>Z) (fun _=>Z) (fun _=>Z) (by decide) (by decide) ?_ ?_
 ·rintro A X k5 x6 ⟨⟩ q3 hN h7 h8 H hq3
  replace H:y1r v2 k5 x6=some q3:=H
  unfold y1r at H
  refine zt hN Z (zk (qr 4 z0o Z) Z (zk (ym ui Z Z Z Z) Z ⟨Z,[(3,.ptr 1 0),(4,.ptr 2 0),(5,.ptr 3 0),(7,.ptr 4 0)],[(1,.box (some (A 1)) 3 [.dat (vint v2)]),(2,.box (some (A 2)) 31 [.dat (vstr []),.dat (vstr []),.dat (vint 0),.dat (vint 0),.dat (vint 0)]),(3,.box (some (A 3)) 4 [.dat (zf false)]),(4,.box none 31 [.dat (vstr x6.Id),.dat (vstr x6.Secret),.dat (vint x6.From),.dat (vint x6.To),.dat (vint x6.Until)])],⟨Z,Z,Z,Z,U⟩,⟨Z,Z,Z,Z,U⟩,Z,Z,Z,fun X hN => ?_⟩))
  refine zx (zb hN Z (za (zo z3h Z) (zp (zr tyS3 Z Z) Z (zp (zr tyS3 Z Z) Z (za (vf Z Z) (qd Z (z4e Z Z (fun hc=>zr tyS3 Z Z) Z jl (qa Z Z (fun hc=>zo y1j Z) (z4e Z Z (fun hc=>zr tyS3 (cnd (c:=(decide (x6.From≤v2))) hc) Z) Z jl (qa Z Z (fun hc=>zw (cnd (c:=(decide (x6.From≤v2))) hc) (cnd (c:=(decide (x6.From≤v2))) hc)) (za (wx Z (fun hb=>(cnd (c:=(decide (x6.From≤v2))) hb)) Z) (zg _ Z (fun h9 => ?_) (fun h9 => ?_)))))))))))))
  ·refine tE h9 H fun H=>zb hN Z (zp (vh ui Z Z Z) Z (zk (ym ui Z Z Z Z) Z (zk (wl tyS4 Z Z Z Z) Z (zh ?_))))
   replace H:=retl H hq3
   cases H
   exact ⟨[(1,.box none 3 [.dat (vint v2)]),(2,.box none 31 [.dat (vstr x6.Id),.dat (vstr x6.Secret),.dat (vint x6.From),.dat (vint x6.To),.dat (vint x6.Until)]),(3,.box none 4 [.dat (zf true)])],Z,Z,Z,Z,⟨Z,Z,Z,U⟩,⟨.inl ⟨_,_,_,wm x6,Z,Z,Z,Z,ui⟩,.inr ⟨_,_,Z,Z,tyS4⟩,U⟩⟩
  ·exact fE h9 H fun H=>zj ⟨_,yx H,⟨Z,Z,Z,U⟩⟩
 ·rintro A X ⟨⟩ hN hR H
  replace H:y1s=some r:=H
  unfold y1s at H
  refine zb hN Z (za (yf (u':=vagg (wm (yh.mk [] [] 0 0 0))) (qf [] z0o y5z Z U) Z) (zk (ym ui Z Z Z Z) Z (zk (wl tyS4 Z Z Z Z) Z (zh ?_))))
  cases H
  exact ⟨.inr Z,[(4,.ptr 2 0),(5,.ptr 3 0)],[(2,.box (some (A 2)) 31 [.dat (vstr []),.dat (vstr []),.dat (vint 0),.dat (vint 0),.dat (vint 0)]),(3,.box (some (A 3)) 4 [.dat (zf false)])],⟨Z,Z,U⟩,⟨Z,Z,U⟩,Z,Z,⟨.inl ⟨_,_,_,wm (yh.mk [] [] 0 0 0),Z,Z,Z,Z,ui⟩,.inr ⟨_,_,Z,Z,tyS4⟩,U⟩⟩
theorem w0d (i1:Int) (r:(Bs)) (H:y3g i1=some r):Fn Tryz.prog 154 [vint i1] (zu [vstr r]):=by
 refine ⟨by kernel_rfl,zy (us:=[vstr r]) Tryz.func154 Z Z Z Z fun X hN => ?_⟩
 unfold y3g at H
 refine zb hN Z (qe Z (ze (zb hN Z (qd Z (za (zw Z Z) (zg _ Z (fun h2 => ?_) (fun h2 => ?_)))))))
 ·refine tE h2 H fun H=>zb hN Z (qd Z (qd Z (za (ye _ Z Z (.inl ⟨Z,Z⟩)) (bE H fun l3 h4 H=>za (ji tyU9 Z Z Z h4) (qe Z (zh ?_))))))
  cases H
  exact ⟨U,.inl Z,U⟩
 ·refine fE h2 H fun H=>zj (zb hN Z (qd Z (za (ye _ Z Z (.inr (.inr ⟨Z,Z⟩))) (qd Z (za (ye _ Z Z (.inr (.inr ⟨Z,Z⟩))) (za (ye _ Z Z (.inl ⟨Z,Z⟩)) (bE H fun l5 h6 H=>za (ji tyU9 Z Z Z h6) (qe Z (zh ?_)))))))))
  cases H
  exact ⟨U,.inl Z,U⟩
theorem w0e (x1:Int) (r:(Bool)) (H:z5s x1=some r):Fn Tryz.prog 200 [vint x1] (zu [zf r]):=by
 refine ⟨by kernel_rfl,zy (us:=[zf r]) Tryz.func200 Z Z Z Z fun X hN => ?_⟩
 unfold z5s at H
 refine zb hN Z (qe Z (zb hN Z (qd Z (qd Z (za (ye _ Z Z (.inr (.inl ⟨Z,Z⟩))) (za (yf (z8d Z Z) Z) (za (yw Z Z) (qe Z (zh ?_)))))))))
 cases H
 exact ⟨U,.inl Z,U⟩
theorem w0v (x r:Int) (H:z2d x=some r):Fn Tryz.prog 201 [vval (.int .u64 x)] (zu [vint r]):=by
 obtain ⟨h0,h1,rfl⟩:=x1y H
 obtain ⟨n,rfl⟩:=Int.eq_ofNat_of_zero_le h0
 refine uq (by kernel_rfl) fun M w vs hM h => ?_
 have hv:=jw (us:=[.int .u64 (n:Int)]) h
 subst hv
 refine (Any7.bits_TrailingZeros Tryz.tz201 n (by omega) w (fun _=>x30 hM)).mono ?_
 rintro e w' ⟨rfl,rfl⟩
 exact ⟨_,Z,Z,Kp.refl _ _⟩
theorem w0f (v1:(List Int)) (v2:Int) (v3:Int) (v4:Bool) (v5:Bool) (r:((List Int)×Bs)) (H:z5t v1 v2 v3 v4 v5=some r):Fn Tryz.prog 157 [vlst (List.map yy v1),vval (.int .u64 v2),vint v3,zf v4,zf v5] (zu [vlst (List.map yy r.1),vstr r.2]):=by
 refine ⟨by kernel_rfl,zy (us:=[vlst (List.map yy r.1),vstr r.2]) Tryz.func157 Z Z Z Z fun X hN => ?_⟩
 unfold z5t at H
 refine zb hN Z (qe Z (qe Z (ze (zb hN Z (qd Z (za (zw Z Z) (qd Z (yg Z Z (fun hc=>zi (.dat _) Z) (yg Z Z (fun hc=>yw (cnd (c:=(!(decide (v3 < 2)))) hc) Z) (za (ve Z Z (fun hb=>(cnd (c:=(!(decide (v3 < 2)))) (notI hb)))) (qd Z (yg Z Z (fun hc=>zi (.dat _) Z) (yg Z Z (fun hc=>qc (cnd (c:=(!((decide (v3 < 2)) || (decide (v3=10))))) hc) Z) (za (ve Z Z (fun hb=>(cnd (c:=(!((decide (v3 < 2)) || (decide (v3=10))))) (notI hb)))) (zg _ Z (fun h6 => ?_) (fun h6 => ?_))))))))))))))))
 ·refine tE h6 H fun H=>?_
  cases H
 ·refine fE h6 H fun H=>zj (zb hN Z (zk (x4a 1 65 (show tyZ Tryz.prog 235=some (List.replicate 65 (.int .u8 0)) from by kernel_rfl)) Z ?_))
  refine zb hN Z (qe Z (yb (ι:=Unit) (fun i=>[(0,.dat (vlst (List.map yy v1))),(1,.dat (vval (.int .u64 v2))),(2,.dat (vint v3)),(3,.dat (zf v4)),(4,.dat (zf v5)),(10,.dat (vnil)),(11,.dat (vstr [])),(12,.ptr 1 0),(13,.dat (vint 65))]) (fun i=>[(1,.box none 235 (List.map Slot.dat (bxU (List.replicate 65 0))))]) (fun i=>z2k v2 v3 v4 v5=some r) (fun i=>Qz Z (Wc Qy Wb)) ?_ ?_))
  ·skip
   refine zb hN Z (qd Z (zg _ Z (fun h7 => ?_) (fun h7 => ?_)))
   ·refine tE h7 H fun H=>?_
    cases H
   ·exact fE h7 H fun H=>zj ⟨(),H,⟨Z,Z,Z,Z,Z,Z,Z,Z,Z,U⟩,⟨Z,U⟩⟩
  ·rintro ⟨⟩ H
   replace H:z2k v2 v3 v4 v5=some r:=H
   unfold z2k at H
   refine yb (ι:=Int×(List Int)) (fun i=>[(0,.dat (vlst (List.map yy v1))),(3,.dat (zf v4)),(4,.dat (zf v5)),(10,.dat (vnil)),(11,.dat (vstr [])),(12,.ptr 1 0),(13,.dat (vint i.1))]) (fun i=>[(1,.box none 235 (List.map Slot.dat (bxU i.2)))]) (fun i=>z0e v4 v5 i.1 i.2=some r) (fun i=>Qz Z (Wc Qy Wb)) ?_ ?_
   ·skip
    refine zb hN Z (qd Z (bE H fun r8 h9 H=>za (zl (w0e v3 r8 h9) ⟨.inl Z,U⟩) (zg _ Z (fun h10 => ?_) (fun h10 => ?_))))
    ·refine tE h10 H fun H=>zb hN Z (qd Z (za (vz tyU3 z3e Z) (bE H fun r11 h12 H=>za (zl (w0v (IntKind.wrap .u64 v3) r11 h12) ⟨.inl Z,U⟩) (za (vz tyU3 z3e Z) (qe Z (zb hN Z (qd Z (za (vz tyU3 uh Z) (qe Z (zb hN Z (qd Z (za (vz tyU3 z3e Z) (za (ye _ Z Z (.inr (.inl ⟨Z,Z⟩))) (qe Z (yb (ι:=Int×Int×(List Int)) (fun i=>[(0,.dat (vlst (List.map yy v1))),(1,.dat (vval (.int .u64 i.1))),(3,.dat (zf v4)),(4,.dat (zf v5)),(10,.dat (vnil)),(11,.dat (vstr [])),(12,.ptr 1 0),(13,.dat (vint i.2.1))]) (fun i=>[(1,.box none 235 (List.map Slot.dat (bxU i.2.2)))]) (fun i=>Yu v4 v5 i.1 i.2.1 i.2.2=some r) (fun i=>Qz Z (Wc Qy Wb)) ?_ ?_)))))))))))))))
     ·skip
      refine zx (Zr (fun (s:Int×Int×(List Int))=>[(0,.dat (vlst (List.map yy v1))),(1,.dat (vval (.int .u64 s.1))),(3,.dat (zf v4)),(4,.dat (zf v5)),(10,.dat (vnil)),(11,.dat (vstr [])),(12,.ptr 1 0),(13,.dat (vint s.2.1)),(14,.dat (vval (.int .u64 (IntKind.wrap .u64 r11)))),(15,.dat (vval (.int .u64 (IntKind.wrap .u64 v3)))),(16,.dat (vval (.int .u64 (IntKind.wrap .u64 ((IntKind.wrap .u64 v3) - 1)))))]) (fun (s:Int×Int×(List Int))=>[(1,.box none 235 (List.map Slot.dat (bxU s.2.2)))]) (v2,65,(List.replicate 65 0)) H ⟨Z,Z,Z,Z,Z,Z,Z,Z,Z,Z,Z,U⟩ ⟨Z,U⟩ (fun _=>Qz Z (Wc Qy Wb)) ?_)
      rintro ⟨v13,v14,l15⟩ q16 H hq16
      replace H:z6h v3 v4 v5 r11 v13 v14 l15=some q16:=H
      unfold z6h at H
      refine ze (zb hN Z (qd Z (qd Z (za (wy Z Z) (zg _ Z (fun h17 => ?_) (fun h17 => ?_))))))
      ·refine tE h17 H fun H=>zj (zx (zb hN Z (qd Z (za (ye _ Z Z (.inr (.inl ⟨Z,Z⟩))) (qe Z (zb hN Z (qd Z (qd Z (qd Z (za (yf (z8d Z Z) Z) (bE H fun x18 h19 H=>za (z05 tyU9 Z Z h19) (gE H fun h20 H=>za (z3y (show tyA Tryz.prog 235=some (65,5,.int .u8) from by kernel_rfl) Z Z h20) ?_))))))))))))
       exact gE H fun h21 H=>zk (z3v (l:=l15) tyS5 Z Z h21) Z (zt hN Z (qd Z (qd Z (gE H fun h22 H=>za (yf (z35 Z Z h22) Z) (qe Z ⟨_,yx H,⟨Z,Z,Z,Z,Z,Z,Z,Z,Z,Z,Z,U⟩,⟨Z,U⟩⟩)))))
      ·refine fE h17 H fun H=>yu ?_
       replace H:=outl H hq16
       exact ⟨(v13,v14,l15),H,⟨Z,Z,Z,Z,Z,Z,Z,Z,U⟩,⟨Z,U⟩⟩
     ·rintro ⟨v23,v24,l25⟩ H
      replace H:Yu v4 v5 v23 v24 l25=some r:=H
      unfold Yu at H
      refine zb hN Z (qd Z (za (ye _ Z Z (.inr (.inl ⟨Z,Z⟩))) (qe Z (zt hN Z (qd Z (qd Z (bE H fun x26 h27 H=>za (z05 tyU9 Z Z h27) (gE H fun h28 H=>za (z3y (show tyA Tryz.prog 235=some (65,5,.int .u8) from by kernel_rfl) Z Z h28) ?_))))))))
      exact gE H fun h29 H=>zk (z3v (l:=l25) tyS5 Z Z h29) Z ⟨(wr (v24 - 1),(l25.set (wr (v24 - 1)).toNat (x26.toNat:Int))),H,⟨Z,Z,Z,Z,Z,Z,Z,U⟩,⟨Z,U⟩⟩
    ·refine fE h10 H fun H=>zb hN Z (qd Z (za (vz tyU3 uh Z) (qe Z (yb (ι:=Int×Int×(List Int)) (fun i=>[(0,.dat (vlst (List.map yy v1))),(1,.dat (vval (.int .u64 i.1))),(3,.dat (zf v4)),(4,.dat (zf v5)),(10,.dat (vnil)),(11,.dat (vstr [])),(12,.ptr 1 0),(13,.dat (vint i.2.1))]) (fun i=>[(1,.box none 235 (List.map Slot.dat (bxU i.2.2)))]) (fun i=>z96 v4 v5 i.1 i.2.1 i.2.2=some r) (fun i=>Qz Z (Wc Qy Wb)) ?_ ?_))))
     ·skip
      refine zx (Zr (fun (s:Int×Int×(List Int))=>[(0,.dat (vlst (List.map yy v1))),(1,.dat (vval (.int .u64 s.1))),(3,.dat (zf v4)),(4,.dat (zf v5)),(10,.dat (vnil)),(11,.dat (vstr [])),(12,.ptr 1 0),(13,.dat (vint s.2.1)),(17,.dat (vval (.int .u64 (IntKind.wrap .u64 v3))))]) (fun (s:Int×Int×(List Int))=>[(1,.box none 235 (List.map Slot.dat (bxU s.2.2)))]) (v2,65,(List.replicate 65 0)) H ⟨Z,Z,Z,Z,Z,Z,Z,Z,Z,U⟩ ⟨Z,U⟩ (fun _=>Qz Z (Wc Qy Wb)) ?_)
      rintro ⟨v30,v31,l32⟩ q33 H hq33
      replace H:y4i v3 v4 v5 v30 v31 l32=some q33:=H
      unfold y4i at H
      refine ze (zb hN Z (qd Z (qd Z (za (wy Z Z) (zg _ Z (fun h34 => ?_) (fun h34 => ?_))))))
      ·refine tE h34 H fun H=>zj (zx (zb hN Z (qd Z (za (ye _ Z Z (.inr (.inl ⟨Z,Z⟩))) (qe Z (zb hN Z (qd Z (qd Z (gE H fun h35 H=>za (y6w Z Z h35) (qe Z (zb hN Z (qd Z (qd Z (qd Z (qd Z (za (ye _ Z Z (.inr (.inr ⟨Z,Z⟩))) (za (ye _ Z Z (.inr (.inl ⟨Z,Z⟩))) (bE H fun x36 h37 H=>za (z05 tyU9 Z Z h37) (gE H fun h38 H=>za (z3y (show tyA Tryz.prog 235=some (65,5,.int .u8) from by kernel_rfl) Z Z h38) ?_)))))))))))))))))))
       exact gE H fun h39 H=>zk (z3v (l:=l32) tyS5 Z Z h39) Z (zt hN Z (qd Z (qe Z ⟨_,yx H,⟨Z,Z,Z,Z,Z,Z,Z,Z,Z,U⟩,⟨Z,U⟩⟩)))
      ·refine fE h34 H fun H=>yu ?_
       replace H:=outl H hq33
       exact ⟨(v30,v31,l32),H,⟨Z,Z,Z,Z,Z,Z,Z,Z,U⟩,⟨Z,U⟩⟩
     ·rintro ⟨v40,v41,l42⟩ H
      replace H:z96 v4 v5 v40 v41 l42=some r:=H
      unfold z96 at H
      refine zb hN Z (qd Z (za (ye _ Z Z (.inr (.inl ⟨Z,Z⟩))) (qe Z (zt hN Z (qd Z (qd Z (bE H fun x43 h44 H=>za (z05 tyU9 Z Z h44) (gE H fun h45 H=>za (z3y (show tyA Tryz.prog 235=some (65,5,.int .u8) from by kernel_rfl) Z Z h45) ?_))))))))
      exact gE H fun h46 H=>zk (z3v (l:=l42) tyS5 Z Z h46) Z ⟨(wr (v41 - 1),(l42.set (wr (v41 - 1)).toNat (x43.toNat:Int))),H,⟨Z,Z,Z,Z,Z,Z,Z,U⟩,⟨Z,U⟩⟩
   ·rintro ⟨v47,l48⟩ H
    replace H:z0e v4 v5 v47 l48=some r:=H
    unfold z0e at H
    refine yb (ι:=Int×(List Int)) (fun i=>[(0,.dat (vlst (List.map yy v1))),(4,.dat (zf v5)),(10,.dat (vnil)),(11,.dat (vstr [])),(12,.ptr 1 0),(13,.dat (vint i.1))]) (fun i=>[(1,.box none 235 (List.map Slot.dat (bxU i.2)))]) (fun i=>z0d v5 i.1 i.2=some r) (fun i=>Qz Z (Wc Qy Wb)) ?_ ?_
    ·skip
     refine zb hN Z (qd Z (zg _ Z (fun h49 => ?_) (fun h49 => ?_)))
     ·refine tE h49 H fun H=>zb hN Z (qd Z (za (ye _ Z Z (.inr (.inl ⟨Z,Z⟩))) (qe Z (zt hN Z (qd Z (gE H fun h50 H=>za (z3y (show tyA Tryz.prog 235=some (65,5,.int .u8) from by kernel_rfl) Z Z h50) ?_))))))
      exact gE H fun h51 H=>zk (z3v (l:=l48) tyS5 Z Z h51) Z ⟨(wr (v47 - 1),(l48.set (wr (v47 - 1)).toNat 45)),H,⟨Z,Z,Z,Z,Z,Z,U⟩,⟨Z,U⟩⟩
     ·exact fE h49 H fun H=>zj ⟨(v47,l48),H,⟨Z,Z,Z,Z,Z,Z,U⟩,⟨Z,U⟩⟩
    ·rintro ⟨v52,l53⟩ H
     replace H:z0d v5 v52 l53=some r:=H
     unfold z0d at H
     refine ze (zb hN Z (qd Z (zg _ Z (fun h54 => ?_) (fun h54 => ?_))))
     ·refine tE h54 H fun H=>?_
      cases H
     ·refine fE h54 H fun H=>zj (ze (kr 1 (bxU l53) Z Z (zt hN Z (qd Z (gE H fun h55 H=>gE H fun h56 H=>za (x37 (C:=yy) (show tyA Tryz.prog 235=some (65,5,.int .u8) from by kernel_rfl) Z h55 Z h56 (fun _=>Z)) ?_)))))
      refine za (z36 (C:=yy) xq tyU5 tyU9 (fun _=>Z) Z) (qe Z (zh ?_))
      cases H
      exact ⟨U,.inr ⟨Z,Z⟩,.inl Z,U⟩
theorem w0h (i1:Int) (base2:Int) (r:(Bs)) (H:z5u i1 base2=some r):Fn Tryz.prog 108 [vval (.int .u64 i1),vint base2] (zu [vstr r]):=by
 refine ⟨by kernel_rfl,zy (us:=[vstr r]) Tryz.func108 Z Z Z Z fun X hN => ?_⟩
 unfold z5u at H
 refine zb hN Z (qe Z (ze (zb hN Z (qd Z (za (yw Z Z) (zg _ Z (fun h3 => ?_) (fun h3 => ?_)))))))
 ·refine tE h3 H fun H=>ze (zb hN Z (qd Z (za (zw Z Z) (zg _ Z (fun h4 => ?_) (fun h4 => ?_)))))
  ·refine tE h4 H fun H=>zb hN Z (qd Z (za (vz uh tyU3 Z) (bE H fun r5 h6 H=>za (zl (w0d (IntKind.wrap .i64 i1) r5 h6) ⟨.inl Z,U⟩) (qe Z (zh ?_)))))
   cases H
   exact ⟨U,.inl Z,U⟩
  ·refine fE h4 H fun H=>?_
   cases H
 ·refine fE h3 H fun H=>zj (zb hN Z (qd Z (qd Z (bE H fun r7 h8 H=>za (zl (w0f ([]:(List Int)) i1 base2 false false r7 h8) ⟨.inr ⟨Z,Z⟩,.inl Z,.inl Z,.inl Z,.inl Z,U⟩) (qd Z (za (ya Z Z) (za (ya Z Z) (qe Z (qe Z (zb hN Z (qd Z (qe Z (zh ?_)))))))))))))
  cases H
  exact ⟨U,.inl Z,U⟩
theorem x9m (i1:Int) (base2:Int) (r:(Bs)) (H:Yl i1 base2=some r):Fn Tryz.prog 69 [vval (.int .u64 i1),vint base2] (zu [vstr r]):=by
 refine ⟨by kernel_rfl,zy (us:=[vstr r]) Tryz.func69 Z Z Z Z fun X hN => ?_⟩
 unfold Yl at H
 refine zb hN Z (qe Z (zb hN Z (qd Z (qd Z (bE H fun r3 h4 H=>za (zl (w0h i1 base2 r3 h4) ⟨.inl Z,.inl Z,U⟩) (qe Z (zh ?_)))))))
 cases H
 exact ⟨U,.inl Z,U⟩
theorem x9g (s:Bs) (n:Int) (r:Bs) (H:Zh s n=some r):Fn Tryz.prog 70 [vstr s,vint n] (zu [vstr r]):=by
 obtain ⟨h0,h1,h2,rfl⟩:=x6j H
 obtain ⟨c,rfl⟩:=Int.eq_ofNat_of_zero_le h0
 refine y0f (by kernel_rfl) fun M w vs h => ?_
 have hv:=jw (us:=[.string ⟨s.toArray⟩,.int .i64 c]) h
 subst hv
 have hs:(ByteArray.mk s.toArray).size=s.length:=by simp [ByteArray.size]
 refine (Tryz.strings_Repeat ⟨s.toArray⟩ c w (by omega) (by rw [hs]; exact Nat.le_trans (Nat.mul_le_mul h2 (show c≤1000000 by omega)) (by decide))).mono ?_
 rintro e w' ⟨rfl,hb⟩
 exact ⟨_,Z,by simp [zu,vstr,vval],Kp.of_below hb⟩
theorem y3w (secret1:Bs) (text2:Bs) (r:(Bs)) (H:kz secret1 text2=some r):Fn Tryz.prog 32 [vstr secret1,vstr text2] (zu [vstr r]):=by
 refine ⟨by kernel_rfl,zy (us:=[vstr r]) Tryz.func32 Z Z Z Z fun X hN => ?_⟩
 unfold kz at H
 refine zb hN Z (qe Z (zb hN Z (qe Z (ze (zb hN Z (qd Z (qd Z (qd Z (za (yf (u':=vlst (List.map zn [secret1,[0],text2,[0],secret1])) (wo [[_],[_],[_],[_],[_]] wz ⟨Z,.inl ⟨_,Z,Z,Z⟩,Z,Z,.inl ⟨_,Z,Z,Z⟩,Z,Z,.inl ⟨_,Z,Z,Z⟩,Z,Z,.inl ⟨_,Z,Z,Z⟩,Z,Z,.inl ⟨_,Z,Z,Z⟩,Z,U⟩ Z Z) Z) (za (yo qi Z) (qd Z (zx (gE H fun h6 H=>wd (fun (k4:Nat) (s:Int)=>[(5,.dat (vval (.int .u64 s))),(13,.dat (vlst (List.map zn ([secret1,[0],text2,[0],secret1])))),(14,.dat (vint (([secret1,[0],text2,[0],secret1]).length:Int))),(15,.dat (vint (k4:Int)))]) (fun (k4:Nat) (s:Int)=>[]) 14695981039346656037 H ⟨Z,Z,Z,Z,U⟩ U (fun _ _=>Z) ?_ ?_)))))))))))))
 ·rintro h3 H
  replace H:Zy h3=some r:=H
  unfold Zy at H
  refine zb hN Z (za (zw Z Z) (ze (zg _ Z (fun h=>(lt_t h).elim) (fun h => ?_))))
  refine yu (ze (zb hN Z (qd Z (zx (gE H fun h11 H=>Yy (fun (k9:Nat) (s:Int)=>[(5,.dat (vval (.int .u64 s))),(33,.dat (vint (k9:Int)))]) (fun (k9:Nat) (s:Int)=>[]) h3 H ⟨Z,Z,U⟩ U (fun _ _=>Z) ?_ ?_)))))
  ·rintro h8 H
   replace H:z7u h8=some r:=H
   unfold z7u at H
   refine zb hN Z (za (zw Z Z) (ze (zg _ Z (fun h=>(lt_t h).elim) (fun h => ?_))))
   refine yu (zb hN Z (qd Z (bE H fun r12 h13 H=>za (zl (x9m h8 16 r12 h13) ⟨.inl Z,.inl Z,U⟩) (qe Z (zb hN Z (qd Z (za (qj tyU9 Z) (za (ye _ Z Z (.inr (.inl ⟨Z,Z⟩))) (bE H fun r14 h15 H=>za (zl (x9g [48] (wr (16 - (r12.length:Int))) r14 h15) ⟨.inl Z,.inl Z,U⟩) (qd Z (gE H fun h16 H=>za (va Z Z (Nat.le_trans h16 (by decide))) (qe Z (zh ?_)))))))))))))
   cases H
   exact ⟨U,.inl Z,U⟩
  ·rintro k9 h8 q10 h17 H hq10
   replace H:z7t k9 h8=some q10:=H
   unfold z7t at H
   refine zb hN Z (za (zw Z Z) (ze (zg _ Z (fun h => ?_) (fun h=>(lt_f h17 h).elim))))
   exact zj (ze (zx (zt hN Z (qd Z (qd Z (za (yf (z35 Z Z (by decide)) Z) (za (yf (y6u Z Z) Z) (za (ye _ Z Z (.inr (.inr ⟨Z,Z⟩))) (qe Z (zt hN Z (za (qo Z Z (by omega)) (qd Z ⟨_,yx H,⟨Z,Z,U⟩,U⟩))))))))))))
 ·rintro k4 x7 h3 q5 h18 h19 H hq5
  replace H:Qe k4 x7 h3=some q5:=H
  unfold Qe at H
  refine zb hN Z (za (zw Z Z) (ze (zg _ Z (fun h => ?_) (fun h=>(lt_f h18 h).elim))))
  refine zj (ze (zx (zb hN Z (za (qt qv (fun _=>Z) Z Z h19) (za (yi tyS9 Z (yp h19) Z) (qe Z (zb hN Z (qd Z (za (qj tyU9 Z) (qd Z (zx (gE H fun h23 H=>wd (fun (k21:Nat) (s:Int)=>[(5,.dat (vval (.int .u64 s))),(7,.dat (vstr x7)),(13,.dat (vlst (List.map zn ([secret1,[0],text2,[0],secret1])))),(14,.dat (vint (([secret1,[0],text2,[0],secret1]).length:Int))),(15,.dat (vint (k4:Int))),(20,.dat (vint (x7.length:Int))),(21,.dat (vint (k21:Int)))]) (fun (k21:Nat) (s:Int)=>[]) h3 H ⟨Z,Z,Z,Z,Z,Z,Z,U⟩ U (fun _ _=>Z) ?_ ?_))))))))))))
  ·rintro h20 H
   replace H:y1q h20=some q5:=H
   unfold y1q at H
   refine zb hN Z (za (zw Z Z) (ze (zg _ Z (fun h=>(lt_t h).elim) (fun h => ?_))))
   exact yu (zt hN Z (za (qo Z Z (by omega)) (qd Z ⟨_,yx H,⟨Z,Z,Z,Z,U⟩,U⟩)))
  ·rintro k21 x24 h20 q22 h25 h26 H hq22
   replace H:z7s k21 x24 h20=some q22:=H
   unfold z7s at H
   refine zb hN Z (za (zw Z Z) (ze (zg _ Z (fun h => ?_) (fun h=>(lt_f h25 h).elim))))
   exact zj (ze (zx (zb hN Z (qd Z (qe Z (zt hN Z (qd Z (qd Z (qd Z (za (wg tyU9 Z Z h26) (za (vz tyU5 uh Z) (za (yf (y6u Z Z) Z) (za (ye _ Z Z (.inr (.inr ⟨Z,Z⟩))) (qe Z (zt hN Z (za (qo Z Z (by omega)) (qd Z ⟨_,yx H,⟨Z,Z,Z,Z,Z,Z,Z,U⟩,U⟩)))))))))))))))))
theorem x83 (l1:(List yh)) (c2:zm) (v3:Int) (r:(Bs×Int)) (H:z47 l1 c2 v3=some r):Fn Tryz.prog 10 [vlst (List.map wm l1),vagg (yn c2),vint v3] (zu [vstr r.1,vint r.2]):=by
 refine ⟨by kernel_rfl,zy (us:=[vstr r.1,vint r.2]) Tryz.func10 Z Z Z Z fun X hN => ?_⟩
 unfold z47 at H
 refine zb hN Z (zk (vr 1 Z) Z (qe Z (qe Z (ze (zb hN Z (qd Z (bE H fun r4 h5 H=>za (zl (y3z l1 r4 h5) ⟨.inl Z,U⟩) (qe Z (zb hN Z (qd Z (za (ql Z Z) (zg _ Z (fun h6 => ?_) (fun h6 => ?_)))))))))))))
 ·refine tE h6 H fun H=>zb hN Z (qd Z (qe Z (qe Z (zh ?_))))
  cases H
  exact ⟨U,.inl Z,.inl Z,U⟩
 ·refine fE h6 H fun H=>zj (zb hN Z (zp (vh yk Z Z Z) Z (bE H fun r7 h8 H=>za (zl (x87 (zm.mk c2.Id c2.Subject c2.Issuer c2.Parent c2.Audience c2.Scopes c2.From c2.To) r7 h8) ⟨.inl Z,U⟩) (qd Z (za (ya Z Z) (za (ya Z Z) (qe Z (qe Z (ze (zb hN Z (qd Z (za (ql Z Z) (zg _ Z (fun h9 => ?_) (fun h9 => ?_))))))))))))))
  ·refine tE h9 H fun H=>zb hN Z (qd Z (qe Z (qe Z (zh ?_))))
   cases H
   exact ⟨U,.inl Z,.inl Z,U⟩
  ·refine fE h9 H fun H=>zj (ze (zb hN Z (qd Z (bE H fun r10 h11 H=>za (zl (y80 v3 r10 h11) ⟨.inl Z,U⟩) (qe Z (zb hN Z (qd Z (za (ql Z Z) (zg _ Z (fun h12 => ?_) (fun h12 => ?_))))))))))
   ·refine tE h12 H fun H=>zb hN Z (qd Z (qe Z (qe Z (zh ?_))))
    cases H
    exact ⟨U,.inl Z,.inl Z,U⟩
   ·refine fE h12 H fun H=>zj (zb hN Z (qd Z (qd Z (bE H fun r13 h14 H=>za (zl (x8j l1 v3 r13 h14) ⟨.inl Z,.inl Z,U⟩) (qd Z (za (ya Z Z) (za (ya Z Z) (zk (qr 2 z0o Z) Z (zk (ym ui Z Z Z Z) Z (qe Z (ze (zb hN Z (qd Z (za (yt Z) (zg _ Z (fun h15 => ?_) (fun h15 => ?_))))))))))))))))
    ·refine tE h15 H fun H=>zb hN Z (qe Z (qe Z (zh ?_)))
     cases H
     exact ⟨U,.inl Z,.inl Z,U⟩
    ·refine fE h15 H fun H=>zj (ze (zb hN Z (za (zo uw Z) (zp (zr tyS3 Z Z) Z (za (zo z7n Z) (zp (zr tyS3 Z Z) Z (za (qc Z Z) (zg _ Z (fun h16 => ?_) (fun h16 => ?_)))))))))
     ·refine tE h16 H fun H=>zb hN Z (qe Z (qe Z (zh ?_)))
      cases H
      exact ⟨U,.inl Z,.inl Z,U⟩
     ·refine fE h16 H fun H=>zj (ze (wq mixed hN Z Z (za (zo z3i Z) (zp (zr tyS9 Z Z) Z (gE H fun h17 H=>za (va Z Z (Nat.le_trans h17 (by decide))) (qd Z (bE H fun r18 h19 H=>za (zl (y3y r7.1 r18 h19) ⟨.inl Z,U⟩) (gE H fun h20 H=>za (va Z Z (Nat.le_trans h20 (by decide))) (qe Z ⟨Z,?_⟩)))))))))
      refine zb hN Z (qd Z (gE H fun h21 H=>za (va Z Z (Nat.le_trans h21 (by decide))) (za (zo y1k Z) (zp (zr tyS9 Z Z) Z (qd Z (bE H fun r22 h23 H=>za (zl (y3w r13.1.Secret ((r13.1.Id++[46])++r18) r22 h23) ⟨.inl Z,.inl Z,U⟩) (gE H fun h24 H=>za (va Z Z (Nat.le_trans h24 (by decide))) (qe Z (qe Z (zh ?_))))))))))
      cases H
      exact ⟨U,.inl Z,.inl Z,U⟩
theorem x88 (l1:(List qs)) (r:(Int)) (H:z5c l1=some r):Fn Tryz.prog 71 [vlst (List.map jn l1)] (zu [vint r]):=by
 refine ⟨by kernel_rfl,zy (us:=[vint r]) Tryz.func71 Z Z Z Z fun X hN => ?_⟩
 unfold z5c at H
 refine zb hN Z (qe Z (ze (zb hN Z (qd Z (za (yo y08 Z) (za (qc Z Z) (zg _ Z (fun h2 => ?_) (fun h2 => ?_))))))))
 ·refine tE h2 H fun H=>zb hN Z (qe Z (zh ?_))
  cases H
  exact ⟨U,.inl Z,U⟩
 ·refine fE h2 H fun H=>zj (ze (zb hN Z (qd Z (za (yo y08 Z) (qd Z (zx (gE H fun h5 H=>wd (fun (k3:Nat) (s:Unit)=>[(0,.dat (vlst (List.map jn l1))),(8,.dat (vlst (List.map jn l1))),(9,.dat (vint (l1.length:Int))),(10,.dat (vint (k3:Int)))]) (fun (k3:Nat) (s:Unit)=>[]) () H ⟨Z,Z,Z,Z,U⟩ U (fun _ _=>Z) ?_ ?_)))))))
  ·rintro ⟨⟩ H
   replace H:z74=some r:=H
   unfold z74 at H
   refine zb hN Z (za (zw Z Z) (ze (zg _ Z (fun h=>(lt_t h).elim) (fun h => ?_))))
   refine yu (zb hN Z (qe Z (zh ?_)))
   cases H
   exact ⟨U,.inl Z,U⟩
  ·rintro k3 x6 ⟨⟩ q4 h7 h8 H hq4
   replace H:z3t l1 k3 x6=some q4:=H
   unfold z3t at H
   refine zb hN Z (za (zw Z Z) (ze (zg _ Z (fun h => ?_) (fun h=>(lt_f h7 h).elim))))
   refine zj (ze (zx (zb hN Z (qd Z (za (qt y1o (fun _=>Z) Z Z h8) (za (ke y09 Z (yp h8) Z) (zk (qr 1 x2f Z) Z (qe Z (zk (ym y09 Z Z Z Z) Z (zx (zb hN Z (za (zo z3m Z) (zp (zr tyS9 Z Z) Z (bE H fun r9 h10 H=>za (zl (jx x6.Id r9 h10) ⟨.inl Z,U⟩) (za (yt Z) (qe Z (zg _ Z (fun h11 => ?_) (fun h11 => ?_))))))))))))))))))
   ·refine tE h11 H fun H=>zb hN Z (qe Z (zh ?_))
    replace H:=retl H hq4
    cases H
    exact ⟨U,.inl Z,U⟩
   ·refine fE h11 H fun H=>yb (ι:=Bool) (fun i=>[(0,.dat (vlst (List.map jn l1))),(4,.ptr 1 0),(8,.dat (vlst (List.map jn l1))),(9,.dat (vint (l1.length:Int))),(10,.dat (vint (k3:Int))),(20,.dat (zf i))]) (fun i=>[(1,.box none 164 [.dat (vstr x6.Id),.dat (vint x6.At),.dat (vint x6.Until)])]) (fun i=>z03 x6 i=some q4) (fun i=>Z) ?_ ?_
    ·skip
     refine wq mixed hN Z Z (qd Z (za (qc Z Z) (qd Z (yc (j:=2) Z Z (fun h12 => ?_) (fun h12 => ?_) Z))))
     ·refine u1 h12 H fun h13 H=>zd Z Z h12 (zo z3m Z) (vn Z Z h12 (zr tyS9 Z Z) Z (zd Z Z h12 (zi (.dat _) Z) (zd Z Z h12 (zi (.dat _) Z) (zd Z Z h12 (z34 Z Z (by omega)) (bE H fun x14 h15 H=>zd Z Z h12 (vq y1o (fun _=>Z) Z Z h15) (zd Z Z h12 (vu z3m Z) (zd Z Z h12 (yi tyS9 Z (yp (ww h15).2) Z) (zd Z Z h12 (z8a Z Z) (za (zz Z (bTT h13) Z) (qe Z ⟨Z,?_⟩))))))))))
      exact ⟨(Op.bytesLess x6.Id x14.Id || x6.Id == x14.Id),H,⟨Z,Z,Z,Z,Z,Z,U⟩,⟨Z,U⟩⟩
     ·refine u2 h12 H fun h16 H=>zc Z Z h12 (zc Z Z h12 (zc Z Z h12 (zc Z Z h12 (zc Z Z h12 (zc Z Z h12 (zc Z Z h12 (zc Z Z h12 (zc Z Z h12 (za (zv Z (bFF h16) Z) (qe Z ⟨Z,?_⟩))))))))))
      exact ⟨false,H,⟨Z,Z,Z,Z,Z,Z,U⟩,⟨Z,U⟩⟩
    ·rintro v17 H
     replace H:z03 x6 v17=some q4:=H
     unfold z03 at H
     refine zg _ Z (fun h18 => ?_) (fun h18 => ?_)
     ·refine tE h18 H fun H=>zb hN Z (qe Z (zh ?_))
      replace H:=retl H hq4
      cases H
      exact ⟨U,.inl Z,U⟩
     ·refine fE h18 H fun H=>zb hN Z (za (zo y6c Z) (zp (zr tyS3 Z Z) Z (za (zo y6b Z) (zp (zr tyS3 Z Z) Z (bE H fun r19 h20 H=>za (zl (Zk x6.At 0 x6.Until r19 h20) ⟨.inl Z,.inl Z,.inl Z,U⟩) (qd Z (yg Z Z (fun hc=>zo y6b Z) (kf Z Z (fun hc=>zr tyS3 (cnd (c:=(!r19)) hc) Z) Z jl (yg Z Z (fun hc=>qc (cnd (c:=(!r19)) hc) Z) (za (ve Z Z (fun hb=>(cnd (c:=(!r19)) (notI hb)))) (qe Z (zg _ Z (fun h21 => ?_) (fun h21 => ?_)))))))))))))
      ·refine tE h21 H fun H=>zb hN Z (qe Z (zh ?_))
       replace H:=retl H hq4
       cases H
       exact ⟨U,.inl Z,U⟩
      ·exact fE h21 H fun H=>zj (zt hN Z (za (qo Z Z (by omega)) (qd Z ⟨_,yx H,⟨Z,Z,Z,Z,U⟩,U⟩)))
theorem x9e (s p:Bs) (r:Bs) (H:z89 s p=some r):Fn Tryz.prog 117 [vstr s,vstr p] (zu [vstr r]):=by
 unfold z89 at H
 obtain ⟨⟨⟨h1,h2⟩,h3⟩,h4⟩:=gif H
 cases h4
 refine uq (by kernel_rfl) fun M w vs hM h => ?_
 have hv:=jw (us:=[.string ⟨s.toArray⟩,.string ⟨p.toArray⟩]) h
 subst hv
 refine (Any.strings_Trim_laid Tryz.lays160 (by kernel_rfl) ⟨s.toArray⟩ ⟨p.toArray⟩ w (by simp [ByteArray.size]; omega) (by simp [ByteArray.size]; omega) (fun j b hb=>z26 h3 j b (by simpa using hb))).mono ?_
 rintro e w' ⟨rfl,hb⟩
 exact ⟨_,Z,Z,Kp.of_below hb⟩

theorem x8n (s1:Bs) (r:(Bool)) (H:z4v s1=some r):Fn Tryz.prog 160 [vstr s1] (zu [zf r]):=by
 refine ⟨by kernel_rfl,zy (us:=[zf r]) Tryz.func160 Z Z Z Z fun X hN => ?_⟩
 unfold z4v at H
 refine zb hN Z (qe Z (yb (ι:=Bool) (fun i=>[(2,.dat (zf i))]) (fun i=>[]) (fun i=>z0x i=some r) (fun i=>Z) ?_ ?_))
 ·skip
  refine zt hN Z (qd Z (za (qj tyU9 Z) (za (yw Z Z) (qd Z (yc (j:=3) Z Z (fun h2 => ?_) (fun h2 => ?_) Z)))))
  ·exact u1 h2 H fun h3 H=>zd Z Z h2 (zi (.dat _) Z) (bE H fun r4 h5 H=>zd Z Z h2 (zl (x9e s1 [48,49,50,51,52,53,54,55,56,57,97,98,99,100,101,102] r4 h5) ⟨.inl Z,.inl Z,U⟩) (zd Z Z h2 (vd Z Z) (za (zz Z (bTT h3) Z) (qe Z ⟨decide (r4=[]),H,⟨Z,U⟩,U⟩))))
  ·exact u2 h2 H fun h6 H=>zc Z Z h2 (zc Z Z h2 (zc Z Z h2 (za (zv Z (bFF h6) Z) (qe Z ⟨false,H,⟨Z,U⟩,U⟩))))
 ·rintro v7 H
  replace H:z0x v7=some r:=H
  unfold z0x at H
  refine zh ?_
  cases H
  exact ⟨U,.inl Z,U⟩
theorem x8p (v1:(List vp)) (v2:Int) (r:(Int)) (H:z4x v1 v2=some r):Fn Tryz.prog 111 [vlst (List.map uf v1),vint v2] (zu [vint r]):=by
 refine ⟨by kernel_rfl,zy (us:=[vint r]) Tryz.func111 Z Z Z Z fun X hN => ?_⟩
 unfold z4x at H
 refine zb hN Z (qe Z (zb hN Z (qd Z (qd Z (bE H fun x3 h4 H=>za (vq z3p (fun _=>Z) Z Z h4) (za (ke z7j Z (yp (ww h4).2) Z) (zk (qr 1 y5u Z) Z (zk (ym z7j Z Z Z Z) Z (ze (zb hN Z (za (zo Qd Z) (zp (zr tyS9 Z Z) Z (bE H fun r5 h6 H=>za (zl (jx x3.App r5 h6) ⟨.inl Z,U⟩) (za (yt Z) (zg _ Z (fun h7 => ?_) (fun h7 => ?_))))))))))))))))
 ·refine tE h7 H fun H=>zb hN Z (qe Z (zh ?_))
  cases H
  exact ⟨U,.inl Z,U⟩
 ·refine fE h7 H fun H=>zj (ze (zb hN Z (za (zo z7q Z) (zp (zr tyS9 Z Z) Z (bE H fun r8 h9 H=>za (zl (x8n x3.Sum r8 h9) ⟨.inl Z,U⟩) (za (yt Z) (zg _ Z (fun h10 => ?_) (fun h10 => ?_))))))))
  ·refine tE h10 H fun H=>zb hN Z (qe Z (zh ?_))
   cases H
   exact ⟨U,.inl Z,U⟩
  ·refine fE h10 H fun H=>zj (ze (yb (ι:=Bool) (fun i=>[(5,.ptr 1 0),(53,.dat (zf i))]) (fun i=>[(1,.box none 131 [.dat (vstr x3.App),.dat (vstr x3.Sum),.dat (vlst (List.map zn x3.Scopes)),.dat (vint x3.From),.dat (vint x3.To)])]) (fun i=>xu x3 i=some r) (fun i=>Z) ?_ ?_))
   ·skip
    refine wq mixed hN Z Z (qd Z (za (qc Z Z) (qd Z (yc (j:=2) Z Z (fun h11 => ?_) (fun h11 => ?_) Z))))
    ·refine u1 h11 H fun h12 H=>zd Z Z h11 (zo Qd Z) (vn Z Z h11 (zr tyS9 Z Z) Z (zd Z Z h11 (zi (.dat _) Z) (zd Z Z h11 (zi (.dat _) Z) (zd Z Z h11 (ye _ Z Z (.inr (.inl ⟨Z,Z⟩))) (bE H fun x13 h14 H=>zd Z Z h11 (vq z3p (fun _=>Z) Z Z h14) (zd Z Z h11 (vu Qd Z) (zd Z Z h11 (yi tyS9 Z (yp (ww h14).2) Z) (zd Z Z h11 (x4p Z Z) (zd Z Z h11 (zi (.dat _) Z) (yc (j:=12) Z Z (fun h15 => ?_) (fun h15 => ?_) Z))))))))))
     ·refine u3 h15 H fun h16 H=>zd Z Z h15 (zo Qd Z) (vn Z Z h15 (zr tyS9 Z Z) Z (zd Z Z h15 (zi (.dat _) Z) (zd Z Z h15 (zi (.dat _) Z) (zd Z Z h15 (ye _ Z Z (.inr (.inl ⟨Z,Z⟩))) (zd Z Z h15 (vq z3p (fun _=>Z) Z Z h14) (zd Z Z h15 (vu Qd Z) (zd Z Z h15 (yi tyS9 Z (yp (ww h14).2) Z) (zd Z Z h15 (vd Z Z) (zd Z Z h15 (zi (.dat _) Z) (yc (j:=22) Z Z (fun h17 => ?_) (fun h17 => ?_) Z))))))))))
      ·refine u1 h17 H fun h18 H=>zd Z Z h17 (zo z7q Z) (vn Z Z h17 (zr tyS9 Z Z) Z (zd Z Z h17 (zi (.dat _) Z) (zd Z Z h17 (zi (.dat _) Z) (zd Z Z h17 (ye _ Z Z (.inr (.inl ⟨Z,Z⟩))) (zd Z Z h17 (vq z3p (fun _=>Z) Z Z h14) (zd Z Z h17 (vu z7q Z) (zd Z Z h17 (yi tyS9 Z (yp (ww h14).2) Z) (zd Z Z h17 (z8a Z Z) (zd Z Z h15 (zz Z (bTT h18) Z) (zd Z Z h11 (zv Z (bFF h16) Z) (za (zz Z (bTT h12) Z) ⟨Z,?_⟩)))))))))))
       exact ⟨(Op.bytesLess x3.Sum x13.Sum || x3.Sum == x13.Sum),H,⟨Z,Z,U⟩,⟨Z,U⟩⟩
      ·refine u2 h17 H fun h19 H=>zc Z Z h17 (zc Z Z h17 (zc Z Z h17 (zc Z Z h17 (zc Z Z h17 (zc Z Z h17 (zc Z Z h17 (zc Z Z h17 (zc Z Z h17 (zd Z Z h15 (zv Z (bFF h19) Z) (zd Z Z h11 (zv Z (bFF h16) Z) (za (zz Z (bTT h12) Z) ⟨Z,?_⟩)))))))))))
       exact ⟨false,H,⟨Z,Z,U⟩,⟨Z,U⟩⟩
     ·refine u4 h15 H fun h20 H=>zc Z Z h15 (zc Z Z h15 (zc Z Z h15 (zc Z Z h15 (zc Z Z h15 (zc Z Z h15 (zc Z Z h15 (zc Z Z h15 (zc Z Z h15 (zc Z Z h15 (yd Z Z (yd Z Z (yd Z Z (yd Z Z (yd Z Z (yd Z Z (yd Z Z (yd Z Z (yd Z Z (zc Z Z h15 (zd Z Z h11 (zz Z (bTT h20) Z) (za (zz Z (bTT h12) Z) ⟨Z,?_⟩)))))))))))))))))))))
      exact ⟨true,H,⟨Z,Z,U⟩,⟨Z,U⟩⟩
    ·refine u2 h11 H fun h21 H=>zc Z Z h11 (zc Z Z h11 (zc Z Z h11 (zc Z Z h11 (zc Z Z h11 (zc Z Z h11 (zc Z Z h11 (zc Z Z h11 (zc Z Z h11 (zc Z Z h11 (yd Z Z (yd Z Z (yd Z Z (yd Z Z (yd Z Z (yd Z Z (yd Z Z (yd Z Z (yd Z Z (yd Z Z (yd Z Z (yd Z Z (yd Z Z ?_))))))))))))))))))))))
     refine yd Z Z (yd Z Z (yd Z Z (yd Z Z (yd Z Z (yd Z Z (yd Z Z (zc Z Z h11 (za (zv Z (bFF h21) Z) ⟨Z,?_⟩))))))))
     exact ⟨false,H,⟨Z,Z,U⟩,⟨Z,U⟩⟩
   ·rintro v22 H
    replace H:xu x3 v22=some r:=H
    unfold xu at H
    refine zg _ Z (fun h23 => ?_) (fun h23 => ?_)
    ·refine tE h23 H fun H=>zb hN Z (qe Z (zh ?_))
     cases H
     exact ⟨U,.inl Z,U⟩
    ·refine fE h23 H fun H=>zj (ze (zb hN Z (za (zo y6e Z) (zp (zr qk Z Z) Z (bE H fun r24 h25 H=>za (zl (z9x x3.Scopes r24 h25) ⟨.inl Z,U⟩) (qe Z (zb hN Z (qd Z (za (ql Z Z) (zg _ Z (fun h26 => ?_) (fun h26 => ?_)))))))))))
     ·refine tE h26 H fun H=>zb hN Z (qd Z (qe Z (zh ?_)))
      cases H
      exact ⟨U,.inl Z,U⟩
     ·refine fE h26 H fun H=>zj (ze (zb hN Z (za (zo y6d Z) (zp (zr tyS3 Z Z) Z (za (zo y1l Z) (zp (zr tyS3 Z Z) Z (bE H fun r27 h28 H=>za (zl (Zk x3.From 0 x3.To r27 h28) ⟨.inl Z,.inl Z,.inl Z,U⟩) (qd Z (yg Z Z (fun hc=>zo y1l Z) (kf Z Z (fun hc=>zr tyS3 (cnd (c:=(!r27)) hc) Z) Z jl (yg Z Z (fun hc=>qc (cnd (c:=(!r27)) hc) Z) (za (ve Z Z (fun hb=>(cnd (c:=(!r27)) (notI hb)))) (zg _ Z (fun h29 => ?_) (fun h29 => ?_))))))))))))))
      ·refine tE h29 H fun H=>zb hN Z (qe Z (zh ?_))
       cases H
       exact ⟨U,.inl Z,U⟩
      ·refine fE h29 H fun H=>zj (zb hN Z (qe Z (zh ?_)))
       cases H
       exact ⟨U,.inl Z,U⟩
theorem x9a (l1:(List vp)) (r:(Int)) (H:z5d l1=some r):Fn Tryz.prog 72 [vlst (List.map uf l1)] (zu [vint r]):=by
 refine ⟨by kernel_rfl,zy (us:=[vint r]) Tryz.func72 Z Z Z Z fun X hN => ?_⟩
 unfold z5d at H
 refine zb hN Z (qe Z (ze (zb hN Z (qd Z (za (yo y07 Z) (za (qc Z Z) (zg _ Z (fun h2 => ?_) (fun h2 => ?_))))))))
 ·refine tE h2 H fun H=>zb hN Z (qe Z (zh ?_))
  cases H
  exact ⟨U,.inl Z,U⟩
 ·refine fE h2 H fun H=>zj (ze (zb hN Z (qd Z (za (yo y07 Z) (qd Z (zx (gE H fun h5 H=>wd (fun (k3:Nat) (s:Unit)=>[(0,.dat (vlst (List.map uf l1))),(9,.dat (vint (l1.length:Int))),(10,.dat (vint (k3:Int)))]) (fun (k3:Nat) (s:Unit)=>[]) () H ⟨Z,Z,Z,U⟩ U (fun _ _=>Z) ?_ ?_)))))))
  ·rintro ⟨⟩ H
   replace H:y1y=some r:=H
   unfold y1y at H
   refine zb hN Z (za (zw Z Z) (ze (zg _ Z (fun h=>(lt_t h).elim) (fun h => ?_))))
   refine yu (zb hN Z (qe Z (zh ?_)))
   cases H
   exact ⟨U,.inl Z,U⟩
  ·rintro k3 x6 ⟨⟩ q4 h7 h8 H hq4
   replace H:z77 l1 k3 x6=some q4:=H
   unfold z77 at H
   refine zb hN Z (za (zw Z Z) (ze (zg _ Z (fun h => ?_) (fun h=>(lt_f h7 h).elim))))
   refine zj (ze (zx (zb hN Z (qd Z (qe Z (zb hN Z (qd Z (qd Z (bE H fun r9 h10 H=>za (zl (x8p l1 (k3:Int) r9 h10) ⟨.inl Z,.inl Z,U⟩) (qe Z (zb hN Z (qd Z (za (ql Z Z) (zg _ Z (fun h11 => ?_) (fun h11 => ?_)))))))))))))))
   ·refine tE h11 H fun H=>zb hN Z (qd Z (qe Z (zh ?_)))
    replace H:=retl H hq4
    cases H
    exact ⟨U,.inl Z,U⟩
   ·exact fE h11 H fun H=>zj (zt hN Z (za (qo Z Z (by omega)) (qd Z ⟨_,yx H,⟨Z,Z,Z,U⟩,U⟩)))
theorem x89 (k1:vg) (r:(Int)) (H:z1t k1=some r):Fn Tryz.prog 33 [vagg (z3a k1)] (zu [vint r]):=by
 refine ⟨by kernel_rfl,zy (us:=[vint r]) Tryz.func33 Z Z Z Z fun X hN => ?_⟩
 unfold z1t at H
 refine zb hN Z (zk (vr 1 Z) Z (qe Z (ze (yb (ι:=Bool) (fun i=>[(1,.ptr 1 0),(15,.dat (zf i))]) (fun i=>[(1,.box none 36 [.dat (vstr k1.Issuer),.dat (vstr k1.Audience),.dat (vlst (List.map wm k1.Signers)),.dat (vlst (List.map jn k1.Revoked)),.dat (vlst (List.map uf k1.Holders)),.dat (vint k1.Skew)])]) (fun i=>Qp k1 i=some r) (fun i=>Z) ?_ ?_))))
 ·skip
  refine zt hN Z (za (zo y1i Z) (zp (zr tyS9 Z Z) Z (bE H fun r2 h3 H=>za (zl (jx k1.Issuer r2 h3) ⟨.inl Z,U⟩) (za (yt Z) (qd Z (yc (j:=4) Z Z (fun h4 => ?_) (fun h4 => ?_) Z))))))
  ·exact u3 h4 H fun h5 H=>zd Z Z h4 (zo y59 Z) (vn Z Z h4 (zr tyS9 Z Z) Z (bE H fun r6 h7 H=>zd Z Z h4 (zl (jx k1.Audience r6 h7) ⟨.inl Z,U⟩) (zd Z Z h4 (yt Z) (za (zv Z (bFF h5) Z) ⟨!r6,H,⟨Z,Z,U⟩,⟨Z,U⟩⟩))))
  ·exact u4 h4 H fun h8 H=>zc Z Z h4 (zc Z Z h4 (zc Z Z h4 (zc Z Z h4 (za (zz Z (bTT h8) Z) ⟨true,H,⟨Z,Z,U⟩,⟨Z,U⟩⟩))))
 ·rintro v9 H
  replace H:Qp k1 v9=some r:=H
  unfold Qp at H
  refine zg _ Z (fun h10 => ?_) (fun h10 => ?_)
  ·refine tE h10 H fun H=>zb hN Z (qe Z (zh ?_))
   cases H
   exact ⟨U,.inl Z,U⟩
  ·refine fE h10 H fun H=>zj (ze (zb hN Z (za (zo y1h Z) (zp (zr z3g Z Z) Z (bE H fun r11 h12 H=>za (zl (y3z k1.Signers r11 h12) ⟨.inl Z,U⟩) (qe Z (zb hN Z (qd Z (za (ql Z Z) (zg _ Z (fun h13 => ?_) (fun h13 => ?_)))))))))))
   ·refine tE h13 H fun H=>zb hN Z (qd Z (qe Z (zh ?_)))
    cases H
    exact ⟨U,.inl Z,U⟩
   ·refine fE h13 H fun H=>zj (ze (zb hN Z (za (zo y58 Z) (zp (zr y5x Z Z) Z (bE H fun r14 h15 H=>za (zl (x88 k1.Revoked r14 h15) ⟨.inl Z,U⟩) (qe Z (zb hN Z (qd Z (za (ql Z Z) (zg _ Z (fun h16 => ?_) (fun h16 => ?_)))))))))))
    ·refine tE h16 H fun H=>zb hN Z (qd Z (qe Z (zh ?_)))
     cases H
     exact ⟨U,.inl Z,U⟩
    ·refine fE h16 H fun H=>zj (ze (zb hN Z (za (zo y57 Z) (zp (zr y5w Z Z) Z (bE H fun r17 h18 H=>za (zl (x9a k1.Holders r17 h18) ⟨.inl Z,U⟩) (qe Z (zb hN Z (qd Z (za (ql Z Z) (zg _ Z (fun h19 => ?_) (fun h19 => ?_)))))))))))
     ·refine tE h19 H fun H=>zb hN Z (qd Z (qe Z (zh ?_)))
      cases H
      exact ⟨U,.inl Z,U⟩
     ·refine fE h19 H fun H=>zj (ze (zb hN Z (za (zo y1g Z) (zp (zr tyS3 Z Z) Z (bE H fun r20 h21 H=>za (zl (Zk k1.Skew 0 600000 r20 h21) ⟨.inl Z,.inl Z,.inl Z,U⟩) (zg _ Z (fun h22 => ?_) (fun h22 => ?_)))))))
      ·refine tE h22 H fun H=>zb hN Z (qe Z (zh ?_))
       cases H
       exact ⟨U,.inl Z,U⟩
      ·refine fE h22 H fun H=>zj (zb hN Z (qe Z (zh ?_)))
       cases H
       exact ⟨U,.inl Z,U⟩
theorem x90 (s1:Bs) (r:(Bool)) (H:y3d s1=some r):Fn Tryz.prog 114 [vstr s1] (zu [zf r]):=by
 refine ⟨by kernel_rfl,zy (us:=[zf r]) Tryz.func114 Z Z Z Z fun X hN => ?_⟩
 unfold y3d at H
 refine zb hN Z (qe Z (ze (zb hN Z (qd Z (za (qj tyU9 Z) (qd Z (zx (gE H fun h4 H=>wd (fun (k2:Nat) (s:Unit)=>[(0,.dat (vstr s1)),(5,.dat (vint (s1.length:Int))),(6,.dat (vint (k2:Int)))]) (fun (k2:Nat) (s:Unit)=>[]) () H ⟨Z,Z,Z,U⟩ U (fun _ _=>Z) ?_ ?_))))))))
 ·rintro ⟨⟩ H
  replace H:y2z s1=some r:=H
  unfold y2z at H
  refine zb hN Z (za (zw Z Z) (ze (zg _ Z (fun h=>(lt_t h).elim) (fun h => ?_))))
  refine yu (yb (ι:=Bool) (fun i=>[(2,.dat (zf i))]) (fun i=>[]) (fun i=>Wg i=some r) (fun i=>Z) ?_ ?_)
  ·skip
   refine zt hN Z (qd Z (za (js Z Z) (qd Z (yc (j:=2) Z Z (fun h6 => ?_) (fun h6 => ?_) Z))))
   ·refine u1 h6 H fun h7 H=>zd Z Z h6 (zi (.dat _) Z) (zd Z Z h6 (qj tyU9 Z) (zd Z Z h6 (vf Z Z) (za (zz Z (bTT h7) Z) (qd Z (yc (j:=7) Z Z (fun h8 => ?_) (fun h8 => ?_) Z)))))
    ·refine u1 h8 H fun h9 H=>zd Z Z h8 (zi (.dat _) Z) (bE H fun x10 h11 H=>zd Z Z h8 (wg tyU9 Z Z h11) (zd Z Z h8 (ql Z Z) (za (zz Z (bTT h9) Z) (qd Z (yc (j:=12) Z Z (fun h12 => ?_) (fun h12 => ?_) Z)))))
     ·exact u1 h12 H fun h13 H=>zd Z Z h12 (zi (.dat _) Z) (zd Z Z h12 (zi (.dat _) Z) (zd Z Z h12 (qj tyU9 Z) (zd Z Z h12 (ye _ Z Z (.inr (.inl ⟨Z,Z⟩))) (bE H fun x14 h15 H=>zd Z Z h12 (ka tyU9 Z Z h15) (zd Z Z h12 (ql Z Z) (za (zz Z (bTT h13) Z) (qe Z ⟨decide ((x14.toNat:Int)≠45),H,⟨Z,U⟩,U⟩)))))))
     ·exact u2 h12 H fun h16 H=>zc Z Z h12 (zc Z Z h12 (zc Z Z h12 (zc Z Z h12 (zc Z Z h12 (zc Z Z h12 (za (zv Z (bFF h16) Z) (qe Z ⟨false,H,⟨Z,U⟩,U⟩)))))))
    ·exact u2 h8 H fun h17 H=>zc Z Z h8 (zc Z Z h8 (zc Z Z h8 (za (zv Z (bFF h17) Z) (qd Z (zc Z Z Z (zc Z Z Z (zc Z Z Z (zc Z Z Z (zc Z Z Z (zc Z Z Z (za (zv Z Z Z) (qe Z ⟨false,H,⟨Z,U⟩,U⟩))))))))))))
   ·exact u2 h6 H fun h18 H=>zc Z Z h6 (zc Z Z h6 (zc Z Z h6 (za (zv Z (bFF h18) Z) (qd Z (zc Z Z Z (zc Z Z Z (zc Z Z Z (za (zv Z Z Z) (qd Z (zc Z Z Z (zc Z Z Z (zc Z Z Z (zc Z Z Z (zc Z Z Z (zc Z Z Z (za (zv Z Z Z) (qe Z ⟨false,H,⟨Z,U⟩,U⟩)))))))))))))))))
  ·rintro v19 H
   replace H:Wg v19=some r:=H
   unfold Wg at H
   refine zh ?_
   cases H
   exact ⟨U,.inl Z,U⟩
 ·rintro k2 x5 ⟨⟩ q3 h20 h21 H hq3
  replace H:y2y k2 x5=some q3:=H
  unfold y2y at H
  refine zb hN Z (za (zw Z Z) (ze (zg _ Z (fun h => ?_) (fun h=>(lt_f h20 h).elim))))
  refine zj (ze (zx (zb hN Z (qd Z (qe Z (yb (ι:=Bool) (fun i=>[(0,.dat (vstr s1)),(5,.dat (vint (s1.length:Int))),(6,.dat (vint (k2:Int))),(26,.dat (zf i))]) (fun i=>[]) (fun i=>z1h i=some q3) (fun i=>Z) ?_ ?_))))))
  ·skip
   refine zt hN Z (qd Z (qd Z (za (wg tyU9 Z Z h21) (bE H fun r22 h23 H=>za (zl (y38 (x5.toNat:Int) r22 h23) ⟨.inl Z,U⟩) (za (yt Z) (qd Z (yc (j:=5) Z Z (fun h24 => ?_) (fun h24 => ?_) Z)))))))
   ·refine u1 h24 H fun h25 H=>zd Z Z h24 (zi (.dat _) Z) (zd Z Z h24 (zi (.dat _) Z) (zd Z Z h24 (wg tyU9 Z Z h21) (bE H fun r26 h27 H=>zd Z Z h24 (zl (z90 (x5.toNat:Int) r26 h27) ⟨.inl Z,U⟩) (zd Z Z h24 (yt Z) (za (zz Z (bTT h25) Z) (qd Z (yc (j:=12) Z Z (fun h28 => ?_) (fun h28 => ?_) Z)))))))
    ·exact u1 h28 H fun h29 H=>zd Z Z h28 (zi (.dat _) Z) (zd Z Z h28 (zi (.dat _) Z) (zd Z Z h28 (wg tyU9 Z Z h21) (zd Z Z h28 (ql Z Z) (za (zz Z (bTT h29) Z) ⟨decide ((x5.toNat:Int)≠45),H,⟨Z,Z,Z,Z,U⟩,U⟩))))
    ·exact u2 h28 H fun h30 H=>zc Z Z h28 (zc Z Z h28 (zc Z Z h28 (zc Z Z h28 (za (zv Z (bFF h30) Z) ⟨false,H,⟨Z,Z,Z,Z,U⟩,U⟩))))
   ·exact u2 h24 H fun h31 H=>zc Z Z h24 (zc Z Z h24 (zc Z Z h24 (zc Z Z h24 (zc Z Z h24 (za (zv Z (bFF h31) Z) (qd Z (zc Z Z Z (zc Z Z Z (zc Z Z Z (zc Z Z Z (za (zv Z Z Z) ⟨false,H,⟨Z,Z,Z,Z,U⟩,U⟩)))))))))))
  ·rintro v32 H
   replace H:z1h v32=some q3:=H
   unfold z1h at H
   refine zg _ Z (fun h33 => ?_) (fun h33 => ?_)
   ·refine tE h33 H fun H=>zb hN Z (qe Z (zh ?_))
    replace H:=retl H hq3
    cases H
    exact ⟨U,.inl Z,U⟩
   ·exact fE h33 H fun H=>zj (zt hN Z (za (qo Z Z (by omega)) (qd Z ⟨_,yx H,⟨Z,Z,Z,U⟩,U⟩)))
theorem x91 (s1:Bs) (r:(Bool)) (H:z1x s1=some r):Fn Tryz.prog 74 [vstr s1] (zu [zf r]):=by
 refine ⟨by kernel_rfl,zy (us:=[zf r]) Tryz.func74 Z Z Z Z fun X hN => ?_⟩
 unfold z1x at H
 refine zb hN Z (qe Z (zb hN Z (qd Z (bE H fun r2 h3 H=>za (zl (y34 s1 [58] r2 h3) ⟨.inl Z,.inl Z,U⟩) (qd Z (za (ya Z Z) (za (ya Z Z) (za (ya Z Z) (qe Z (qe Z (qe Z (ze (zb hN Z (qd Z (bE H fun r4 h5 H=>za (zl (Yq r2.1 [46] r4 h5) ⟨.inl Z,.inl Z,U⟩) (za (yo qi Z) (qd Z (zx (gE H fun h8 H=>wd (fun (k6:Nat) (s:Unit)=>[(0,.dat (vstr s1)),(4,.dat (vstr r2.2.1)),(5,.dat (zf r2.2.2)),(17,.dat (vlst (List.map zn r4))),(18,.dat (vint (r4.length:Int))),(19,.dat (vint (k6:Int)))]) (fun (k6:Nat) (s:Unit)=>[]) () H ⟨Z,Z,Z,Z,Z,Z,U⟩ U (fun _ _=>Z) ?_ ?_)))))))))))))))))))
 ·rintro ⟨⟩ H
  replace H:z8z s1 r2=some r:=H
  unfold z8z at H
  refine zb hN Z (za (zw Z Z) (ze (zg _ Z (fun h=>(lt_t h).elim) (fun h => ?_))))
  refine yu (zb hN Z (qd Z (bE H fun r10 h11 H=>za (zl (y9e r2.2.1 r10 h11) ⟨.inl Z,U⟩) (qd Z (za (ya Z Z) (za (ya Z Z) (qe Z (qe Z (yb (ι:=Bool) (fun i=>[(2,.dat (zf i))]) (fun i=>[]) (fun i=>Wh i=some r) (fun i=>Z) ?_ ?_)))))))))
  ·skip
   refine zt hN Z (qd Z (za (qj tyU9 Z) (za (vf Z Z) (qd Z (yc (j:=3) Z Z (fun h12 => ?_) (fun h12 => ?_) Z)))))
   ·refine u1 h12 H fun h13 H=>zd Z Z h12 (zi (.dat _) Z) (zd Z Z h12 (yt Z) (zd Z Z h12 (zi (.dat _) Z) (yc (j:=6) Z Z (fun h14 => ?_) (fun h14 => ?_) Z)))
    ·refine u3 h14 H fun h15 H=>zd Z Z h14 (zi (.dat _) Z) (zd Z Z h14 (zi (.dat _) Z) (yc (j:=8) Z Z (fun h16 => ?_) (fun h16 => ?_) Z))
     ·exact u1 h16 H fun h17 H=>zd Z Z h16 (zi (.dat _) Z) (bE H fun r18 h19 H=>zd Z Z h16 (zl (Zk r10.1 1 65535 r18 h19) ⟨.inl Z,.inl Z,.inl Z,U⟩) (zd Z Z h16 (yt Z) (zd Z Z h14 (zz Z (bTT h17) Z) (zd Z Z h12 (zv Z (bFF h15) Z) (za (zz Z (bTT h13) Z) (qe Z ⟨!r18,H,⟨Z,U⟩,U⟩))))))
     ·exact u2 h16 H fun h20 H=>zc Z Z h16 (zc Z Z h16 (zc Z Z h16 (zd Z Z h14 (zv Z (bFF h20) Z) (zd Z Z h12 (zv Z (bFF h15) Z) (za (zz Z (bTT h13) Z) (qe Z ⟨false,H,⟨Z,U⟩,U⟩))))))
    ·exact u4 h14 H fun h21 H=>zc Z Z h14 (zc Z Z h14 (yd Z Z (yd Z Z (yd Z Z (zc Z Z h14 (zd Z Z h12 (zz Z (bTT h21) Z) (za (zz Z (bTT h13) Z) (qe Z ⟨true,H,⟨Z,U⟩,U⟩))))))))
   ·exact u2 h12 H fun h22 H=>zc Z Z h12 (zc Z Z h12 (zc Z Z h12 (yd Z Z (yd Z Z (yd Z Z (yd Z Z (yd Z Z (yd Z Z (zc Z Z h12 (za (zv Z (bFF h22) Z) (qe Z ⟨false,H,⟨Z,U⟩,U⟩)))))))))))
  ·rintro v23 H
   replace H:Wh v23=some r:=H
   unfold Wh at H
   refine zh ?_
   cases H
   exact ⟨U,.inl Z,U⟩
 ·rintro k6 x9 ⟨⟩ q7 h24 h25 H hq7
  replace H:z8y k6 x9=some q7:=H
  unfold z8y at H
  refine zb hN Z (za (zw Z Z) (ze (zg _ Z (fun h => ?_) (fun h=>(lt_f h24 h).elim))))
  refine zj (ze (zx (zb hN Z (za (qt qv (fun _=>Z) Z Z h25) (za (yi tyS9 Z (yp h25) Z) (qe Z (zb hN Z (qd Z (bE H fun r26 h27 H=>za (zl (x90 x9 r26 h27) ⟨.inl Z,U⟩) (za (yt Z) (zg _ Z (fun h28 => ?_) (fun h28 => ?_))))))))))))
  ·refine tE h28 H fun H=>zb hN Z (qe Z (zh ?_))
   replace H:=retl H hq7
   cases H
   exact ⟨U,.inl Z,U⟩
  ·exact fE h28 H fun H=>zj (zt hN Z (za (qo Z Z (by omega)) (qd Z ⟨_,yx H,⟨Z,Z,Z,Z,Z,Z,U⟩,U⟩)))
theorem x9k (s p:Bs) (r:Bool) (H:z9c s p=some r):Fn Tryz.prog 116 [vstr s,vstr p] (zu [zf r]):=by
 unfold z9c at H
 obtain ⟨h1,h2⟩:=gif H
 cases h2
 refine uq (by kernel_rfl) fun M w vs hM h => ?_
 have hv:=jw (us:=[.string ⟨s.toArray⟩,.string ⟨p.toArray⟩]) h
 subst hv
 obtain ⟨m,hm⟩:=y21 hM
 refine (Tryz.strings_Contains ⟨s.toArray⟩ ⟨p.toArray⟩ m w (by simp [ByteArray.size]; omega) hm).mono ?_
 rintro e w' ⟨rfl,rfl⟩
 exact ⟨_,Z,Z,Kp.refl _ _⟩

theorem x9u (s1:Bs) (r:(Int)) (H:z5h s1=some r):Fn Tryz.prog 75 [vstr s1] (zu [vint r]):=by
 refine ⟨by kernel_rfl,zy (us:=[vint r]) Tryz.func75 Z Z Z Z fun X hN => ?_⟩
 unfold z5h at H
 refine zb hN Z (qe Z (ze (yb (ι:=Bool) (fun i=>[(14,.dat (zf i))]) (fun i=>[]) (fun i=>We i=some r) (fun i=>Z) ?_ ?_)))
 ·skip
  refine zt hN Z (qd Z (za (qj tyU9 Z) (za (qc Z Z) (qd Z (yc (j:=3) Z Z (fun h2 => ?_) (fun h2 => ?_) Z)))))
  ·refine u3 h2 H fun h3 H=>zd Z Z h2 (zi (.dat _) Z) (bE H fun r4 h5 H=>zd Z Z h2 (zl (y37 s1 33 126 r4 h5) ⟨.inl Z,.inl Z,.inl Z,U⟩) (zd Z Z h2 (yt Z) (za (zv Z (bFF h3) Z) (qd Z (yc (j:=8) Z Z (fun h6 => ?_) (fun h6 => ?_) Z)))))
   ·exact u3 h6 H fun h7 H=>zd Z Z h6 (zi (.dat _) Z) (bE H fun r8 h9 H=>zd Z Z h6 (zl (x9k s1 [35] r8 h9) ⟨.inl Z,.inl Z,U⟩) (za (zv Z (bFF h7) Z) ⟨r8,H,⟨Z,U⟩,U⟩))
   ·exact u4 h6 H fun h10 H=>zc Z Z h6 (zc Z Z h6 (za (zz Z (bTT h10) Z) ⟨true,H,⟨Z,U⟩,U⟩))
  ·exact u4 h2 H fun h11 H=>zc Z Z h2 (zc Z Z h2 (zc Z Z h2 (za (zz Z (bTT h11) Z) (qd Z (zc Z Z Z (zc Z Z Z (za (zz Z Z Z) ⟨true,H,⟨Z,U⟩,U⟩)))))))
 ·rintro v12 H
  replace H:We v12=some r:=H
  unfold We at H
  refine zg _ Z (fun h13 => ?_) (fun h13 => ?_)
  ·refine tE h13 H fun H=>zb hN Z (qe Z (zh ?_))
   cases H
   exact ⟨U,.inl Z,U⟩
  ·refine fE h13 H fun H=>zj (zb hN Z (qe Z (zh ?_)))
   cases H
   exact ⟨U,.inl Z,U⟩
end Go.Proofs.YtbndlmnjeofkdadGreatDoor
