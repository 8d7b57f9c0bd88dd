/- Walks along the models. Printed by a program. -/
import Derived.Test.YtndabcepiekebaaGreatDoorZkw2
namespace Go.Proofs.YtndabcepiekebaaGreatDoor
open Go.RowKit
set_option linter.unusedVariables false
set_option maxRecDepth 100000
set_option maxHeartbeats 2000000
theorem w32 (l:List ya):Fn Tryz.prog 166 [vlst (List.map wg l)] (zw [vfn 237 [wv [[vlst (List.map wg l)]] 0 0]]):=by
 refine ⟨by kernel_rfl,yd (us:=[vfn 237 [wv [[vlst (List.map wg l)]] 0 0]]) Tryz.func166 Z Z Z Z fun X hN => ?_⟩
 exact zb hN Z (zi (z4g 1 Z Z) Z (qe Z (ze (xg 1 [vlst (List.map wg l)] Z Z (zq hN Z (za (Zd (us:=[_]) ⟨Z,U⟩) (qe Z (zh ⟨U,.inl Z,U⟩))))))))
theorem w50:x7d Tryz.prog 237 5 false:=by
 intro vals M l cap J Jx W hn hvn hk hc hY h0
 have hnt:Tryz.f237.ntmps=19:=Z
 refine callsIn_of_wp Tryz.func237 Z U ?_ Z
 rw [hnt]
 obtain ⟨vc,hvc⟩:∃ vc:V,vc=vand (wv [[vlst (vals.map fun c=>c.map vval)]] 0 0) cap:=⟨_,rfl⟩
 have hwk:Wk vc (wv [[vlst (vals.map fun c=>c.map vval)]] 0 0):=by rw [hvc]; exact x7k _ _
 have hvm:∀ W',(wv [[vlst (vals.map fun c=>c.map vval)]] 0 0).p W' M cap→vc.p W' M cap:=fun W' h=>by rw [hvc]; exact ⟨Z,h⟩
 have hvo:∀ W' M' v,vc.p W' M' v→v=cap:=fun W' M' v h=>by rw [hvc] at h; exact h.1
 obtain ⟨hM,hcp⟩:=hc _ _ h0
 refine wpIn_seq (wpIn_mono (y3g (N:=19) hM ?hN ?hD [(0,vval (yv l)),(1,vc)] ?hr (Q:=fun e f=>e = .normal∧f 0 = .dat (vval (yv l))∧f 1 = .dat vc∧f 3 = .dat (vint ((vals.length:Int) - 1))) fun X hN => ?_) ?_)
 case hN=>simp
 case hD=>rfl
 case hr=>exact ⟨by simp [yv,vval],by simpa using hvm _ hcp,U⟩
 ·exact zq hN Z (za (x08 Qy Z hwk Z Z) (za (yo (C:=fun c:List Value=>c.map vval) Qv Z) (za (Wn Z Z (by omega)) (qe Z ⟨Z,Z,Z,Z⟩))))
 rintro e a W1 ⟨hk1,hN,hD,f,own,g,M',hfr,rfl,e0,e1,e3⟩
 have t0:a.tmps.getD 0 undef=yv l:=by have:=hfr 0; rw [e0] at this; exact this
 have t1:a.tmps.getD 1 undef=cap:=by have:=hfr 1; rw [e1] at this; exact hvo _ _ _ this
 have t3:a.tmps.getD 3 undef = .int .i64 ((vals.length:Int) - 1):=by have:=hfr 3; rw [e3] at this; exact this
 refine wpIn_block (wpIn_loop_rounds (vals.length+1) ?_)
 have hJ1:=hk _ _ _ h0 hk1
 clear hk1 hfr e0 e1 e3 hcp hM h0
 suffices key:∀ m,m≤vals.length→∀ a W,a.tmps.size=19→a.defers=[]→a.tmps.getD 0 undef=yv l→a.tmps.getD 1 undef=cap→a.tmps.getD 3 undef = .int .i64 ((m:Int) - 1)→J m W→Code.roundsIn Fence.wide 0 Tryz.prog _ _ (m+1) a W from key _ (Nat.le_refl _) a W1 hN hD t0 t1 t3 hJ1
 clear t0 t1 t3 hN hD hJ1
 intro m
 induction m with
 | zero =>
  intro _ a W hN hD t0 t1 t3 hJ
  obtain ⟨hM,hcp⟩:=hc _ _ hJ
  rw [roundsIn_succ]
  refine wpIn_seq (wpIn_seq (wpIn_mono (y3g (N:=19) hM hN hD [(3,vint (-1))] ⟨by rw [t3]; rfl,trivial⟩ (Q:=fun e f=>e = .normal∧f 8 = .dat (zj (decide ((0:Int)≤-1)))) fun X hN => ?_) ?_))
  ·exact zq hN Z (qd Z (za (vy Z Z) ⟨Z,Z⟩))
  rintro e a' W' ⟨hk1,hN',hD',f,own,g,M',hfr,rfl,e8⟩
  have t8:a'.tmps.getD 8 undef = .bool false:=by have:=hfr 8; rw [e8] at this; exact this
  exact wpIn_cond_false t8 (wpIn_exit ⟨hD',_,results_none Z _ _ _,⟨_,Z⟩,.inl (hk _ _ _ hJ hk1)⟩)
 | succ m ih =>
  intro hm a W hN hD t0 t1 t3 hJ
  obtain ⟨hM,hcp⟩:=hc _ _ hJ
  have hm3:(((m+1:Nat):Int) - 1)=(m:Int):=by omega
  rw [hm3] at t3
  rw [roundsIn_succ]
  refine wpIn_seq (wpIn_seq (wpIn_mono (y3g (N:=19) hM hN hD [(0,vval (yv l)),(1,vc),(3,vint (m:Int))] ⟨t0,by rw [t1]; exact hvm _ hcp,by rw [t3]; rfl,trivial⟩ (Q:=fun e f=>e = .normal∧f 0 = .dat (vval (yv l))∧f 1 = .dat vc∧f 3 = .dat (vint (m:Int))∧f 8 = .dat (zj (decide ((0:Int)≤(m:Int))))) fun X hN => ?_) ?_))
  ·exact zq hN Z (qd Z (za (vy Z Z) ⟨Z,Z,Z,Z,Z⟩))
  rintro e a1 W1 ⟨hk1,hN1,hD1,f,own,g,M',hfr,rfl,e0,e1,e3,e8⟩
  have u0:a1.tmps.getD 0 undef=yv l:=by have:=hfr 0; rw [e0] at this; exact this
  have u1:a1.tmps.getD 1 undef=cap:=by have:=hfr 1; rw [e1] at this; exact hvo _ _ _ this
  have u3:a1.tmps.getD 3 undef = .int .i64 (m:Int):=by have:=hfr 3; rw [e3] at this; exact this
  have u8:a1.tmps.getD 8 undef = .bool true:=by
   have:=hfr 8; rw [e8,decide_eq_true (by omega)] at this; exact this
  refine wpIn_cond_true u8 (wpIn_skip ?_)
  have hJ1:=hk _ _ _ hJ hk1
  clear hfr e0 e1 e3 e8 hk1 hJ hM hcp t0 t1 t3 hN hD
  obtain ⟨hM1,hcp1⟩:=hc _ _ hJ1
  refine wpIn_seq (wpIn_block (wpIn_seq ?_))
  refine wpIn_region ?_
  obtain ⟨X,hX⟩:∃ X:Ctx,X=⟨fun b=>M b,W1,[],19,none,[]⟩:=⟨_,rfl⟩
  have hrel:Rel X (frs (datL [(0,vval (yv l)),(1,vc),(3,vint (m:Int))])) (fun _=>none) ⟨fun _=>none,fun _ _=>none⟩ a1 W1:=by
   subst hX
   have he:Ext M (Mof ⟨fun b=>M b,W1,[],19,none,[]⟩ ⟨fun _=>none,fun _ _=>none⟩ (fun _=>none)) W1 W1:=⟨Nat.le_refl _,fun _ _ _ _=>Z,fun b _ hb=>by
    rcases hb with hb | ⟨id,o,ho,_⟩
    ·exact hb
    ·cases ho⟩
   refine ⟨Kp.refl _ _,⟨fun b hb=>⟨hM1.1 b hb,by simp⟩,hM1.2.1,fun b hb=>⟨hM1.2.2 b hb,by simp⟩⟩,hN1,hD1,fun t=>y3j [(0,vval (yv l)),(1,vc),(3,vint (m:Int))] ⟨u0,by rw [u1]; exact vc.keep he (hvm _ hcp1),by rw [u3]; rfl,trivial⟩ t,fun id o ho=>(by cases ho),fun id _ o _ b ho=>(by cases ho),fun id o b ho=>(by cases ho),fun id _=>⟨rfl,fun _=>rfl⟩,fun id e size es h=>(by cases h)⟩
  have hNX:X.N=19:=by rw [hX]
  have hRX:X.R=none:=by rw [hX]
  have hDX:X.D=[]:=by rw [hX]
  have hKX:∀ W',Kp X.S0 X.w0 W'→Kp [] W1 W':=fun W' h=>by rw [hX] at h; exact h
  obtain ⟨el,hel⟩:∃ el,vals[m]?=some el:=⟨_,List.getElem?_eq_getElem (by omega)⟩
  have hell:(el.map vval).length=5:=by rw [List.length_map]; exact hvn el (List.mem_of_getElem? hel)
  have helm:(vals.map fun c=>c.map vval)[m]?=some (el.map vval):=by rw [List.getElem?_map,hel]; rfl
  have helD:vals.getD m []=el:=by rw [List.getD_eq_getElem?_getD,hel]; rfl
  clear hX
  refine opsR hRX (n:=6+2) rfl (x1y (P:=Tryz.prog) (X:=X) (by rw [hNX]; rfl) [_,_,_,_,_,_] [_,_] 0 _ _ [] _ a1 W1 rfl hrel ?_)
  refine qd Z (qd Z (za (x08 Qy Z hwk Z Z) (qd Z ?_)))
  refine za (y60 (k:=m) uc Z Z (by rw [List.length_map]; omega) (fun c hc=>by
   obtain ⟨c',hc',rfl⟩:=List.mem_map.1 hc
   rw [List.length_map]; exact hvn c' hc')) ?_
  refine za (kj ub Z helm hell) ?_
  intro g2 a2 W2 k2
  have v0:a2.tmps.getD 0 undef=yv l:=k2.fr 0
  have v1:a2.tmps.getD 1 undef=cap:=hvo _ _ _ (k2.fr 1)
  have v3:a2.tmps.getD 3 undef = .int .i64 (m:Int):=k2.fr 3
  have v11:a2.tmps.getD 11 undef=yv l:=k2.fr 11
  have v12:a2.tmps.getD 12 undef = .int .i64 (m:Int):=k2.fr 12
  have v16:a2.tmps.getD 16 undef = .agg el.toArray:=by
   obtain ⟨lv,h1,h2,h3⟩:(vagg (el.map vval)).p W2 _ (a2.tmps.getD 16 undef):=k2.fr 16
   rw [h1]
   have:lv=el:=by
    apply List.ext_getElem?
    intro j
    rcases Nat.lt_or_ge j el.length with hj | hj
    ·obtain ⟨y,p1,p2,_⟩:=h3 j (vval el[j]) (by rw [List.getElem?_map,List.getElem?_eq_getElem hj]; rfl)
     rw [p1,List.getElem?_eq_getElem hj]; exact congrArg some p2
    ·rw [List.getElem?_eq_none hj,List.getElem?_eq_none (by rw [List.length_map] at h2; omega)]
   rw [this]
  have hN2:a2.tmps.size=19:=k2.n.trans hNX
  have hD2:a2.defers=[]:=k2.df.trans hDX
  have hJ2:=hk _ _ _ hJ1 (hKX _ k2.kp)
  clear k2 hrel
  obtain ⟨fn,tm,asg,bdy,hrun,hR⟩:=hY m W2 (by omega) hJ2
  rw [helD] at hrun
  change (Instr.yield l #[.int .i64 (m:Int),.agg el.toArray]).run Tryz.prog W2=_ at hrun
  rw [hRX]
  show wpOpsIn Fence.wide 0 Tryz.prog _ _ [6,7] a2 W2
  refine x7g Z Z Z v11 (by simp [Act.eval,v12,v16]) hrun (hR.mono ?_)
  rintro e W3 (⟨rfl,hJ3⟩ | ⟨rfl,hJ3⟩)
  ·obtain ⟨hM3,hcp3⟩:=hc _ _ hJ3
   refine ⟨_,Z,?_⟩
   obtain ⟨a3,ha3⟩:∃ a3:Act,a3=a2.put (some 17) (.bool true):=⟨_,rfl⟩
   have hN3:a3.tmps.size=19:=by rw [ha3]; simpa [Act.put] using hN2
   have hD3:a3.defers=[]:=by rw [ha3]; exact hD2
   have g3:∀ t,a3.tmps.getD t undef=if t=17 then .bool true else a2.tmps.getD t undef:=fun t=>by rw [ha3]; exact y1k hN2 (by decide) t
   show wpOpsIn Fence.wide 0 Tryz.prog _ _ (List.range' 7 1) (a2.put (some 17) (.bool true)) W3
   rw [← ha3]
   refine opsT (N:=19) (i:=7) (os:=[_]) hM3 hN3 hD3 [(0,vval (yv l)),(1,vc),(3,vint (m:Int)),(17,zj true)] ⟨?_,?_,?_,?_,U⟩ (Q':=fun f=>f 0 = .dat (vval (yv l))∧f 1 = .dat vc∧f 3 = .dat (vint (m:Int))∧f 18 = .dat (zj (!true))) Z Z (fun _ _ => ?_) ?_
   ·show _=_
    rw [g3,if_neg (by decide)]; exact v0
   ·rw [g3,if_neg (by decide),v1]; exact hvm _ hcp3
   ·show _=_
    rw [g3,if_neg (by decide)]; exact v3
   ·show _=_
    rw [g3,if_pos Z]
   ·exact za (yt Z) ⟨Z,Z,Z,Z⟩
   intro a4 W4 hk4 hN4 hD4 f g M' hfr ⟨e0,e1,e3,e18⟩
   have z0:a4.tmps.getD 0 undef=yv l:=by have:=hfr 0; rw [e0] at this; exact this
   have z1:a4.tmps.getD 1 undef=cap:=by have:=hfr 1; rw [e1] at this; exact hvo _ _ _ this
   have z3:a4.tmps.getD 3 undef = .int .i64 (m:Int):=by have:=hfr 3; rw [e3] at this; exact this
   have z18:a4.tmps.getD 18 undef = .bool false:=by have:=hfr 18; rw [e18] at this; exact this
   refine wpIn_cond_false z18 (wpIn_skip ?_)
   have hJ4:=hk _ _ _ hJ3 hk4
   obtain ⟨hM4,hcp4⟩:=hc _ _ hJ4
   refine wpIn_mono (y3g (N:=19) hM4 hN4 hD4 [(0,vval (yv l)),(1,vc),(3,vint (m:Int))] ⟨z0,by rw [z1]; exact hvm _ hcp4,by rw [z3]; rfl,trivial⟩ (Q:=fun e f=>e = .normal∧f 0 = .dat (vval (yv l))∧f 1 = .dat vc∧f 3 = .dat (vint ((m:Int) - 1))) fun X hN => ?_) ?_
   ·exact zq hN Z (qd Z (za (Wn Z Z (by omega)) (qe Z ⟨Z,Z,Z,Z⟩)))
   rintro e a5 W5 ⟨hk5,hN5,hD5,f5,own5,g5,M5,hfr5,rfl,e0,e1,e3⟩
   exact ih (by omega) a5 W5 hN5 hD5 (by have:=hfr5 0; rw [e0] at this; exact this) (by have:=hfr5 1; rw [e1] at this; exact hvo _ _ _ this) (by have:=hfr5 3; rw [e3] at this; exact this) (hk _ _ _ hJ4 hk5)
  ·refine ⟨_,Z,?_⟩
   obtain ⟨a3,ha3⟩:∃ a3:Act,a3=a2.put (some 17) (.bool false):=⟨_,rfl⟩
   show wpOpsIn Fence.wide 0 Tryz.prog _ _ [7] (a2.put (some 17) (.bool false)) W3
   rw [← ha3]
   have g3:∀ t,a3.tmps.getD t undef=if t=17 then .bool false else a2.tmps.getD t undef:=fun t=>by rw [ha3]; exact y1k hN2 (by decide) t
   have hN3:a3.tmps.size=19:=by rw [ha3]; simpa [Act.put] using hN2
   have hD3:a3.defers=[]:=by rw [ha3]; exact hD2
   have v17:a3.tmps.getD 17 undef = .bool false:=by rw [g3,if_pos Z]
   rw [wpOpsIn_cons]
   unfold wpOpIn
   refine ⟨fun _ _=>U,?_⟩
   have hrun:∀ o:Oper,o.op = .unOp .not 4 (.tmp 17)→(o.semAt Fence.wide.round a3.eval).run Tryz.prog W3 = .ok (.value (.bool true)) W3:=fun o ho=>by
    rw [Oper.semAt_eq Fence.wide.round a3.eval o (fun c hc=>by rw [ho] at hc; cases hc)]
    have h1:a3.eval (.tmp 17) = .bool false:=v17
    simp only [execOp,ho,h1,Op.unary]
    rfl
   rw [hrun _ Z,Oper.uponIn_value]
   have t18:(a3.put (some 18) (.bool true)).tmps.getD 18 undef = .bool true:=by rw [show (a3.put (some 18) (.bool true)).tmps=a3.tmps.setIfInBounds 18 (.bool true) from Z,y1k hN3 (by decide),if_pos Z]
   exact wpIn_cond_true t18 (wpIn_ret ⟨hD3,_,results_none Z _ _ _,⟨_,Z⟩,.inr hJ3⟩)

theorem w4x (l1:(List ya)) (v2:Int) (r:(ya×Bool)) (H:Qg l1 v2=some r):Fn Tryz.prog 112 [vlst (List.map wg l1),vint v2] (zw [vagg (wg r.1),zj r.2]):=by
 refine ⟨by kernel_rfl,w1k (us:=[vagg (wg r.1),zj r.2]) Tryz.func112 Z Z Z Z fun X hN hR => ?_⟩
 unfold Qg at H
 refine w8o hR (zq hN Z (zi (z4g 1 Z Z) Z (zi (we 2 Qu Z) Z (zi (we 3 tyZ4 Z) Z (w8p hR (zq hN Z (qd Z (za (zl (w32 l1) ⟨.inl Z,U⟩) ⟨Z,?_⟩))))))))
 refine gE H fun h4 H=>w1h (s0:=()) hR hN [(3,.ptr 1 0),(4,.ptr 2 0),(5,.ptr 3 0),(9,.dat (vfn 237 [wv [[vlst (List.map wg l1)]] 0 0]))] [(1,.box none 3 [.dat (vint v2)]),(2,.box none 123 [.dat (vstr []),.dat (vstr []),.dat (vint 0),.dat (vint 0),.dat (vint 0)]),(3,.box none 4 [.dat (zj false)])] (fun (s:Unit)=>[(1,.box none 3 [.dat (vint v2)]),(2,.box none 123 [.dat (vstr []),.dat (vstr []),.dat (vint 0),.dat (vint 0),.dat (vint 0)]),(3,.box none 4 [.dat (zj false)])]) w50 (fun _=>Z) (enters_of Tryz.func237 (by kernel_rfl) Z) Z h4 H ⟨Z,Z,Z,Z,U⟩ ⟨Z,Z,Z,U⟩ Z Z (fun _=>Z) (fun _=>Z) (fun _ _=>Z) (fun _ _=>Z) (fun _=>Z) (fun _=>Z) (by decide) (by decide) ?_ ?_
 ·rintro A X k5 x6 ⟨⟩ q3 hN h7 h8 H hq3
  replace H:Ql v2 k5 x6=some q3:=H
  unfold Ql at H
  refine zq hN Z (zi (we 4 Qu Z) Z (zi (yp ub Z Z Z Z) Z ⟨Z,[(3,.ptr 1 0),(4,.ptr 2 0),(5,.ptr 3 0),(7,.ptr 4 0)],[(1,.box (some (A 1)) 3 [.dat (vint v2)]),(2,.box (some (A 2)) 123 [.dat (vstr []),.dat (vstr []),.dat (vint 0),.dat (vint 0),.dat (vint 0)]),(3,.box (some (A 3)) 4 [.dat (zj false)]),(4,.box none 123 [.dat (vstr x6.Id),.dat (vstr x6.Secret),.dat (vint x6.From),.dat (vint x6.To),.dat (vint x6.Until)])],⟨Z,Z,Z,Z,U⟩,⟨Z,Z,Z,Z,U⟩,Z,Z,Z,fun X hN => ?_⟩))
  refine zx (zb hN Z (za (zn Zw Z) (zu (zp tyS3 Z Z) Z (zu (zp tyS3 Z Z) Z (za (vq Z Z) (qd Z (z4i Z Z (fun hc=>zp tyS3 Z Z) Z vv (qj Z Z (fun hc=>zn We Z) (z4i Z Z (fun hc=>zp tyS3 (cnd (c:=(decide (x6.From≤v2))) hc) Z) Z vv (qj Z Z (fun hc=>zy (cnd (c:=(decide (x6.From≤v2))) hc) (cnd (c:=(decide (x6.From≤v2))) hc)) (za (vi Z (fun hb=>(cnd (c:=(decide (x6.From≤v2))) hb)) Z) (zg _ Z (fun h9 => ?_) (fun h9 => ?_)))))))))))))
  ·refine tE h9 H fun H=>zb hN Z (zu (vo ub Z Z Z) Z (zi (yp ub Z Z Z Z) Z (zi (wn tyS4 Z Z Z Z) Z (zh ?_))))
   replace H:=retl H hq3
   cases H
   exact ⟨[(1,.box none 3 [.dat (vint v2)]),(2,.box none 123 [.dat (vstr x6.Id),.dat (vstr x6.Secret),.dat (vint x6.From),.dat (vint x6.To),.dat (vint x6.Until)]),(3,.box none 4 [.dat (zj true)])],Z,Z,Z,Z,⟨Z,Z,Z,U⟩,⟨.inl ⟨_,_,_,wg x6,Z,Z,Z,Z,ub⟩,.inr ⟨_,_,Z,Z,tyS4⟩,U⟩⟩
  ·exact fE h9 H fun H=>zk ⟨_,qk H,⟨Z,Z,Z,U⟩⟩
 ·rintro A X ⟨⟩ hN hR H
  replace H:y08=some r:=H
  unfold y08 at H
  refine zb hN Z (za (ye (u':=vagg (wg (ya.mk [] [] 0 0 0))) (qt [] Qu x0i Z U) Z) (zi (yp ub Z Z Z Z) Z (zi (wn tyS4 Z Z Z Z) Z (zh ?_))))
  cases H
  exact ⟨.inr Z,[(4,.ptr 2 0),(5,.ptr 3 0)],[(2,.box (some (A 2)) 123 [.dat (vstr []),.dat (vstr []),.dat (vint 0),.dat (vint 0),.dat (vint 0)]),(3,.box (some (A 3)) 4 [.dat (zj false)])],⟨Z,Z,U⟩,⟨Z,Z,U⟩,Z,Z,⟨.inl ⟨_,_,_,wg (ya.mk [] [] 0 0 0),Z,Z,Z,Z,ub⟩,.inr ⟨_,_,Z,Z,tyS4⟩,U⟩⟩
theorem ur (c1:Int) (r:(Int)) (H:ky c1=some r):Fn Tryz.prog 290 [vval (.int .u8 c1)] (zw [vval (.int .u8 r)]):=by
 refine ⟨by kernel_rfl,yd (us:=[vval (.int .u8 r)]) Tryz.func290 Z Z Z Z fun X hN => ?_⟩
 unfold ky at H
 refine zb hN Z (qe Z (zb hN Z (qd Z (za (ye (y6w Z Z) Z) (qe Z (zh ?_))))))
 cases H
 exact ⟨U,.inl Z,U⟩
theorem w4i (v1:Bs) (r:(Bool)) (H:y74 v1=some r):Fn Tryz.prog 291 [vstr v1] (zw [zj r]):=by
 refine ⟨by kernel_rfl,yd (us:=[zj r]) Tryz.func291 Z Z Z Z fun X hN => ?_⟩
 unfold y74 at H
 refine zb hN Z (qe Z (zb hN Z (qe Z (zb hN Z (qe Z (yf (ι:=Bs) (fun i=>[(0,.dat (vstr i)),(3,.dat (vval (.int .i32 94))),(4,.dat (vint 0))]) (fun i=>[]) (fun i=>y0v i=some r) (fun i=>Z) ?_ ?_))))))
 ·skip
  refine yf (ι:=Bool) (fun i=>[(0,.dat (vstr v1)),(3,.dat (vval (.int .i32 94))),(4,.dat (vint 0)),(18,.dat (zj i))]) (fun i=>[]) (fun i=>z56 v1 i=some r) (fun i=>Z) ?_ ?_
  ·skip
   refine zq hN Z (qd Z (za (qp tyU9 Z) (za (vy Z Z) (qd Z (yh (j:=3) Z Z (fun h2 => ?_) (fun h2 => ?_) Z)))))
   ·refine u1 h2 H fun h3 H=>zd Z Z h2 (zf (.dat _) Z) (bE H fun x4 h5 H=>zd Z Z h2 (wq tyU9 Z Z h5) (zd Z Z h2 (ql Z Z) (zd Z Z h2 (zf (.dat _) Z) (yh (j:=7) Z Z (fun h6 => ?_) (fun h6 => ?_) Z))))
    ·exact u3 h6 H fun h7 H=>zd Z Z h6 (zf (.dat _) Z) (zd Z Z h6 (wq tyU9 Z Z h5) (zd Z Z h6 (ql Z Z) (zd Z Z h2 (yb Z (bFF h7) Z) (za (zz Z (bTT h3) Z) ⟨decide ((x4.toNat:Int)=43),H,⟨Z,Z,Z,Z,U⟩,U⟩))))
    ·exact u4 h6 H fun h8 H=>zc Z Z h6 (zc Z Z h6 (zc Z Z h6 (zd Z Z h2 (zz Z (bTT h8) Z) (za (zz Z (bTT h3) Z) ⟨true,H,⟨Z,Z,Z,Z,U⟩,U⟩))))
   ·exact u2 h2 H fun h9 H=>zc Z Z h2 (zc Z Z h2 (zc Z Z h2 (zc Z Z h2 (yg Z Z (yg Z Z (yg Z Z (zc Z Z h2 (za (yb Z (bFF h9) Z) ⟨false,H,⟨Z,Z,Z,Z,U⟩,U⟩))))))))
  ·rintro v10 H
   replace H:z56 v1 v10=some r:=H
   unfold z56 at H
   refine zg _ Z (fun h11 => ?_) (fun h11 => ?_)
   ·exact tE h11 H fun H=>zq hN Z (qd Z (bE H fun l12 h13 H=>za (jc tyU9 Z Z Z h13) (qe Z ⟨l12,H,⟨Z,Z,Z,U⟩,U⟩)))
   ·exact fE h11 H fun H=>zk ⟨v1,H,⟨Z,Z,Z,U⟩,U⟩
 ·rintro v14 H
  replace H:y0v v14=some r:=H
  unfold y0v at H
  refine zb hN Z (qe Z (yf (ι:=Int×Int×Bool) (fun i=>[(0,.dat (vstr v14)),(3,.dat (vval (.int .i32 i.1))),(4,.dat (vint i.2.1)),(5,.dat (zj i.2.2))]) (fun i=>[]) (fun i=>y0u v14 i.1 i.2.1 i.2.2=some r) (fun i=>Z) ?_ ?_))
  ·skip
   refine yf (ι:=Bool) (fun i=>[(0,.dat (vstr v14)),(3,.dat (vval (.int .i32 94))),(4,.dat (vint 0)),(5,.dat (zj false)),(46,.dat (zj i))]) (fun i=>[]) (fun i=>z0g v14 i=some r) (fun i=>Z) ?_ ?_
   ·skip
    refine zq hN Z (qd Z (za (qp tyU9 Z) (za (vy Z Z) (qd Z (yh (j:=3) Z Z (fun h15 => ?_) (fun h15 => ?_) Z)))))
    ·refine u1 h15 H fun h16 H=>zd Z Z h15 (zf (.dat _) Z) (bE H fun x17 h18 H=>zd Z Z h15 (wq tyU9 Z Z h18) (zd Z Z h15 (ql Z Z) (za (zz Z (bTT h16) Z) (qd Z (yh (j:=8) Z Z (fun h19 => ?_) (fun h19 => ?_) Z)))))
     ·refine u1 h19 H fun h20 H=>zd Z Z h19 (zf (.dat _) Z) (bE H fun x21 h22 H=>zd Z Z h19 (wq tyU9 Z Z h22) (bE H fun r23 h24 H=>zd Z Z h19 (zl (ur (x21.toNat:Int) r23 h24) ⟨.inl Z,U⟩) (zd Z Z h19 (ql Z Z) (zd Z Z h19 (zf (.dat _) Z) (yh (j:=13) Z Z (fun h25 => ?_) (fun h25 => ?_) Z)))))
      ·refine u3 h25 H fun h26 H=>zd Z Z h25 (zf (.dat _) Z) (zd Z Z h25 (wq tyU9 Z Z h22) (bE H fun r27 h28 H=>zd Z Z h25 (zl (ur (x21.toNat:Int) r27 h28) ⟨.inl Z,U⟩) (zd Z Z h25 (ql Z Z) (zd Z Z h19 (yb Z (bFF h26) Z) (zd Z Z h19 (zf (.dat _) Z) (yh (j:=19) Z Z (fun h29 => ?_) (fun h29 => ?_) Z))))))
       ·exact u3 h29 H fun h30 H=>zd Z Z h29 (zf (.dat _) Z) (zd Z Z h29 (wq tyU9 Z Z h22) (bE H fun r31 h32 H=>zd Z Z h29 (zl (ur (x21.toNat:Int) r31 h32) ⟨.inl Z,U⟩) (zd Z Z h29 (ql Z Z) (zd Z Z h19 (yb Z (bFF h30) Z) (za (zz Z (bTT h20) Z) ⟨decide (r31=120),H,⟨Z,Z,Z,Z,Z,U⟩,U⟩)))))
       ·exact u4 h29 H fun h33 H=>zc Z Z h29 (zc Z Z h29 (zc Z Z h29 (zc Z Z h29 (zd Z Z h19 (zz Z (bTT h33) Z) (za (zz Z (bTT h20) Z) ⟨true,H,⟨Z,Z,Z,Z,Z,U⟩,U⟩)))))
      ·exact u4 h25 H fun h34 H=>zc Z Z h25 (zc Z Z h25 (zc Z Z h25 (zc Z Z h25 (zd Z Z h19 (zz Z (bTT h34) Z) (zd Z Z h19 (zf (.dat _) Z) (zc Z Z Z (zc Z Z Z (zc Z Z Z (zc Z Z Z (zd Z Z h19 (zz Z Z Z) (za (zz Z (bTT h20) Z) ⟨true,H,⟨Z,Z,Z,Z,Z,U⟩,U⟩)))))))))))
     ·exact u2 h19 H fun h35 H=>zc Z Z h19 (zc Z Z h19 (zc Z Z h19 (zc Z Z h19 (zc Z Z h19 (yg Z Z (yg Z Z (yg Z Z (yg Z Z (zc Z Z h19 (zc Z Z h19 (yg Z Z (yg Z Z (yg Z Z (yg Z Z (zc Z Z h19 (za (yb Z (bFF h35) Z) ⟨false,H,⟨Z,Z,Z,Z,Z,U⟩,U⟩))))))))))))))))
    ·exact u2 h15 H fun h36 H=>zc Z Z h15 (zc Z Z h15 (zc Z Z h15 (za (yb Z (bFF h36) Z) (qd Z (zc Z Z Z (zc Z Z Z (zc Z Z Z (zc Z Z Z (zc Z Z Z (yg Z Z (yg Z Z (yg Z Z (yg Z Z (zc Z Z Z (zc Z Z Z (yg Z Z (yg Z Z (yg Z Z (yg Z Z (zc Z Z Z (za (yb Z Z Z) ⟨false,H,⟨Z,Z,Z,Z,Z,U⟩,U⟩)))))))))))))))))))))
   ·rintro v37 H
    replace H:z0g v14 v37=some r:=H
    unfold z0g at H
    refine zg _ Z (fun h38 => ?_) (fun h38 => ?_)
    ·exact tE h38 H fun H=>zb hN Z (qe Z (zb hN Z (qe Z (zq hN Z (qd Z (bE H fun x39 h40 H=>za (wq tyU9 Z Z h40) (bE H fun r41 h42 H=>za (zl (ur (x39.toNat:Int) r41 h42) ⟨.inl Z,U⟩) (za (ql Z Z) (qe Z ⟨(48,2,decide (r41=120)),H,⟨Z,Z,Z,Z,U⟩,U⟩)))))))))
    ·exact fE h38 H fun H=>zk ⟨(94,0,false),H,⟨Z,Z,Z,Z,U⟩,U⟩
  ·rintro ⟨v43,v44,v45⟩ H
   replace H:y0u v14 v43 v44 v45=some r:=H
   unfold y0u at H
   refine yf (ι:=Int) (fun i=>[(3,.dat (vval (.int .i32 i)))]) (fun i=>[]) (fun i=>y4z i=some r) (fun i=>Z) ?_ ?_
   ·skip
    refine zx (Zq (fun (s:Int×Int)=>[(0,.dat (vstr v14)),(3,.dat (vval (.int .i32 s.1))),(4,.dat (vint s.2)),(5,.dat (zj v45))]) (fun (s:Int×Int)=>[]) (v43,v44) H ⟨Z,Z,Z,Z,U⟩ U (fun _=>Z) ?_)
    rintro ⟨v46,v47⟩ q48 H hq48
    replace H:y8y v14 v45 v46 v47=some q48:=H
    unfold y8y at H
    refine ze (zb hN Z (qd Z (qd Z (za (qp tyU9 Z) (za (zy Z Z) (zg _ Z (fun h49 => ?_) (fun h49 => ?_)))))))
    ·refine tE h49 H fun H=>zk (yf (ι:=Int) (fun i=>[(0,.dat (vstr v14)),(3,.dat (vval (.int .i32 i))),(4,.dat (vint v47)),(5,.dat (zj v45))]) (fun i=>[]) (fun i=>z55 v47 i=some q48) (fun i=>Z) ?_ ?_)
     ·skip
      refine zx (ze (yf (ι:=Bool) (fun i=>[(0,.dat (vstr v14)),(3,.dat (vval (.int .i32 v46))),(4,.dat (vint v47)),(5,.dat (zj v45)),(83,.dat (zj i))]) (fun i=>[]) (fun i=>Yh v14 v46 v47 i=some q48) (fun i=>Z) ?_ ?_))
      ·skip
       refine zq hN Z (qd Z (qd Z (bE H fun x50 h51 H=>za (Zc tyU9 Z Z h51) (za (vq Z Z) (qd Z (yh (j:=4) Z Z (fun h52 => ?_) (fun h52 => ?_) Z))))))
       ·refine u1 h52 H fun h53 H=>zd Z Z h52 (zf (.dat _) Z) (zd Z Z h52 (zf (.dat _) Z) (zd Z Z h52 (Zc tyU9 Z Z h51) (zd Z Z h52 (vq Z Z) (za (zz Z (bTT h53) Z) (qd Z (yh (j:=10) Z Z (fun h54 => ?_) (fun h54 => ?_) Z))))))
        ·refine u3 h54 H fun h55 H=>zd Z Z h54 (zf (.dat _) Z) (zd Z Z h54 (zf (.dat _) Z) (yh (j:=12) Z Z (fun h56 => ?_) (fun h56 => ?_) Z))
         ·refine u1 h56 H fun h57 H=>zd Z Z h56 (zf (.dat _) Z) (zd Z Z h56 (zf (.dat _) Z) (zd Z Z h56 (Zc tyU9 Z Z h51) (bE H fun r58 h59 H=>zd Z Z h56 (zl (ur (x50.toNat:Int) r58 h59) ⟨.inl Z,U⟩) (zd Z Z h56 (vq Z Z) (zd Z Z h54 (zz Z (bTT h57) Z) (zd Z Z h54 (zf (.dat _) Z) (yh (j:=19) Z Z (fun h60 => ?_) (fun h60 => ?_) Z)))))))
          ·exact u1 h60 H fun h61 H=>zd Z Z h60 (zf (.dat _) Z) (zd Z Z h60 (zf (.dat _) Z) (zd Z Z h60 (Zc tyU9 Z Z h51) (bE H fun r62 h63 H=>zd Z Z h60 (zl (ur (x50.toNat:Int) r62 h63) ⟨.inl Z,U⟩) (zd Z Z h60 (vq Z Z) (zd Z Z h54 (zz Z (bTT h61) Z) (za (yb Z (bFF h55) Z) ⟨decide (r62≤102),H,⟨Z,Z,Z,Z,Z,U⟩,U⟩))))))
          ·exact u2 h60 H fun h64 H=>zc Z Z h60 (zc Z Z h60 (zc Z Z h60 (zc Z Z h60 (zc Z Z h60 (zd Z Z h54 (yb Z (bFF h64) Z) (za (yb Z (bFF h55) Z) ⟨false,H,⟨Z,Z,Z,Z,Z,U⟩,U⟩))))))
         ·exact u2 h56 H fun h65 H=>zc Z Z h56 (zc Z Z h56 (zc Z Z h56 (zc Z Z h56 (zc Z Z h56 (zd Z Z h54 (yb Z (bFF h65) Z) (zd Z Z h54 (zf (.dat _) Z) (zc Z Z Z (zc Z Z Z (zc Z Z Z (zc Z Z Z (zc Z Z Z (zd Z Z h54 (yb Z Z Z) (za (yb Z (bFF h55) Z) ⟨false,H,⟨Z,Z,Z,Z,Z,U⟩,U⟩)))))))))))))
        ·exact u4 h54 H fun h66 H=>zc Z Z h54 (zc Z Z h54 (yg Z Z (yg Z Z (yg Z Z (yg Z Z (yg Z Z (zc Z Z h54 (zc Z Z h54 (yg Z Z (yg Z Z (yg Z Z (yg Z Z (yg Z Z (zc Z Z h54 (za (zz Z (bTT h66) Z) ⟨true,H,⟨Z,Z,Z,Z,Z,U⟩,U⟩)))))))))))))))
       ·refine u2 h52 H fun h67 H=>zc Z Z h52 (zc Z Z h52 (zc Z Z h52 (zc Z Z h52 (za (yb Z (bFF h67) Z) (qd Z (zd Z Z Z (zf (.dat _) Z) (zd Z Z Z (zf (.dat _) Z) (yh (j:=12) Z Z (fun h68 => ?_) (fun h68 => ?_) Z))))))))
        ·refine u1 h68 H fun h69 H=>zd Z Z h68 (zf (.dat _) Z) (zd Z Z h68 (zf (.dat _) Z) (zd Z Z h68 (Zc tyU9 Z Z h51) (bE H fun r70 h71 H=>zd Z Z h68 (zl (ur (x50.toNat:Int) r70 h71) ⟨.inl Z,U⟩) (zd Z Z h68 (vq Z Z) (zd Z Z Z (zz Z (bTT h69) Z) (zd Z Z Z (zf (.dat _) Z) (yh (j:=19) Z Z (fun h72 => ?_) (fun h72 => ?_) Z)))))))
         ·exact u1 h72 H fun h73 H=>zd Z Z h72 (zf (.dat _) Z) (zd Z Z h72 (zf (.dat _) Z) (zd Z Z h72 (Zc tyU9 Z Z h51) (bE H fun r74 h75 H=>zd Z Z h72 (zl (ur (x50.toNat:Int) r74 h75) ⟨.inl Z,U⟩) (zd Z Z h72 (vq Z Z) (zd Z Z Z (zz Z (bTT h73) Z) (za (yb Z Z Z) ⟨decide (r74≤102),H,⟨Z,Z,Z,Z,Z,U⟩,U⟩))))))
         ·exact u2 h72 H fun h76 H=>zc Z Z h72 (zc Z Z h72 (zc Z Z h72 (zc Z Z h72 (zc Z Z h72 (zd Z Z Z (yb Z (bFF h76) Z) (za (yb Z Z Z) ⟨false,H,⟨Z,Z,Z,Z,Z,U⟩,U⟩))))))
        ·exact u2 h68 H fun h77 H=>zc Z Z h68 (zc Z Z h68 (zc Z Z h68 (zc Z Z h68 (zc Z Z h68 (zd Z Z Z (yb Z (bFF h77) Z) (zd Z Z Z (zf (.dat _) Z) (zc Z Z Z (zc Z Z Z (zc Z Z Z (zc Z Z Z (zc Z Z Z (zd Z Z Z (yb Z Z Z) (za (yb Z Z Z) ⟨false,H,⟨Z,Z,Z,Z,Z,U⟩,U⟩)))))))))))))
      ·rintro v78 H
       replace H:Yh v14 v46 v47 v78=some q48:=H
       unfold Yh at H
       refine zg _ Z (fun h79 => ?_) (fun h79 => ?_)
       ·exact tE h79 H fun H=>zb hN Z (qe Z (qg ⟨48,H,⟨Z,Z,Z,Z,U⟩,U⟩))
       ·refine fE h79 H fun H=>zk (ze (zb hN Z (qd Z (qd Z (bE H fun x80 h81 H=>za (Zc tyU9 Z Z h81) (za (ql Z Z) (zg _ Z (fun h82 => ?_) (fun h82 => ?_))))))))
        ·refine tE h82 H fun H=>ze (zb hN Z (qd Z (za (wa Z Z) (zg _ Z (fun h83 => ?_) (fun h83 => ?_)))))
         ·refine tE h83 H fun H=>zb hN Z (qe Z (zh ?_))
          replace H:=retl H hq48
          cases H
          exact ⟨U,.inl Z,U⟩
         ·exact fE h83 H fun H=>zk (zb hN Z (qe Z (qg ⟨95,H,⟨Z,Z,Z,Z,U⟩,U⟩)))
        ·refine fE h82 H fun H=>zk (ze (zb hN Z (qd Z (za (ql Z Z) (zg _ Z (fun h84 => ?_) (fun h84 => ?_))))))
         ·refine tE h84 H fun H=>zb hN Z (qe Z (zh ?_))
          replace H:=retl H hq48
          cases H
          exact ⟨U,.inl Z,U⟩
         ·exact fE h84 H fun H=>zk (zq hN Z (qe Z ⟨33,H,⟨Z,Z,Z,Z,U⟩,U⟩))
     ·rintro v85 H
      replace H:z55 v47 v85=some q48:=H
      unfold z55 at H
      exact zq hN Z (qd Z (za (yw _ Z Z (.inl ⟨Z,Z⟩)) (qe Z ⟨_,qk H,⟨Z,Z,Z,Z,U⟩,U⟩)))
    ·refine fE h49 H fun H=>qg ?_
     replace H:=outl H hq48
     exact ⟨v46,H,⟨Z,U⟩,U⟩
   ·rintro v86 H
    replace H:y4z v86=some r:=H
    unfold y4z at H
    refine zb hN Z (qd Z (za (wa Z Z) (qe Z (zh ?_))))
    cases H
    exact ⟨U,.inl Z,U⟩
theorem w4k (v1:Bs) (v2:Int) (v3:Int) (r:(Int×Int)) (H:y75 v1 v2 v3=some r):Fn Tryz.prog 242 [vstr v1,vint v2,vint v3] (zw [vval (.int .u64 r.1),verr r.2]):=by
 refine ⟨by kernel_rfl,yd (us:=[vval (.int .u64 r.1),verr r.2]) Tryz.func242 Z Z Z Z fun X hN => ?_⟩
 unfold y75 at H
 refine zb hN Z (qe Z (qe Z (ze (zb hN Z (qd Z (za (wy Z Z) (zg _ Z (fun h4 => ?_) (fun h4 => ?_))))))))
 ·refine tE h4 H fun H=>zb hN Z (za (ye (u':=verr 2) (ul (show Tryz.prog.underlying 215=some (.int .i64) from by kernel_rfl) Z) Z) ?_)
  refine qe Z (qe Z (zh ?_))
  cases H
  exact ⟨U,.inl Z,.inl Z,U⟩
 ·refine fE h4 H fun H=>zk (zb hN Z (qd Z (za (ql Z Z) (qe Z (zb hN Z (qd Z (qe Z (yf (ι:=Bs×Int) (fun i=>[(0,.dat (vstr i.1)),(1,.dat (vint i.2)),(2,.dat (vint v3)),(8,.dat (zj (decide (v2=0)))),(9,.dat (vstr v1))]) (fun i=>[]) (fun i=>Qj v1 v2 v3 i.1 i.2=some r) (fun i=>Z) ?_ ?_))))))))
  ·skip
   refine zx (zb hN Z (qd Z (za (vq Z Z) (qd Z (qj Z Z (fun hc=>zf (.dat _) Z) (qj Z Z (fun hc=>vq (cnd (c:=(decide (2≤v2))) hc) Z) (za (vi Z (fun hb=>(cnd (c:=(decide (2≤v2))) hb)) Z) (qe Z (zg _ Z (fun h5 => ?_) (fun h5 => ?_))))))))))
   ·exact tE h5 H fun H=>zk ⟨(v1,v2),H,⟨Z,Z,Z,Z,Z,U⟩,U⟩
   ·refine fE h5 H fun H=>zb hN Z (qd Z (za (ql Z Z) (qe Z (zg _ Z (fun h6 => ?_) (fun h6 => ?_)))))
    ·refine tE h6 H fun H=>zb hN Z (qe Z (zb hN Z (qd Z (bE H fun x7 h8 H=>za (wq tyU9 Z Z h8) (za (ql Z Z) (zg _ Z (fun h9 => ?_) (fun h9 => ?_)))))))
     ·refine tE h9 H fun H=>zx (yf (ι:=Bool) (fun i=>[(0,.dat (vstr v1)),(2,.dat (vint v3)),(8,.dat (zj (decide (v2=0)))),(9,.dat (vstr v1)),(40,.dat (zj i))]) (fun i=>[]) (fun i=>y01 v1 v2 v3 i=some r) (fun i=>Z) ?_ ?_)
      ·skip
       refine zq hN Z (qd Z (za (qp tyU9 Z) (za (vy Z Z) (qd Z (yh (j:=3) Z Z (fun h10 => ?_) (fun h10 => ?_) Z)))))
       ·exact u1 h10 H fun h11 H=>zd Z Z h10 (zf (.dat _) Z) (bE H fun x12 h13 H=>zd Z Z h10 (wq tyU9 Z Z h13) (bE H fun r14 h15 H=>zd Z Z h10 (zl (ur (x12.toNat:Int) r14 h15) ⟨.inl Z,U⟩) (zd Z Z h10 (ql Z Z) (za (zz Z (bTT h11) Z) (qe Z ⟨decide (r14=98),H,⟨Z,Z,Z,Z,Z,U⟩,U⟩)))))
       ·exact u2 h10 H fun h16 H=>zc Z Z h10 (zc Z Z h10 (zc Z Z h10 (zc Z Z h10 (za (yb Z (bFF h16) Z) (qe Z ⟨false,H,⟨Z,Z,Z,Z,Z,U⟩,U⟩)))))
      ·rintro v17 H
       replace H:y01 v1 v2 v3 v17=some r:=H
       unfold y01 at H
       refine zg _ Z (fun h18 => ?_) (fun h18 => ?_)
       ·exact tE h18 H fun H=>zb hN Z (qe Z (zq hN Z (qd Z (bE H fun l19 h20 H=>za (jc tyU9 Z Z Z h20) (qe Z ⟨(l19,2),H,⟨Z,Z,Z,Z,Z,U⟩,U⟩)))))
       ·refine fE h18 H fun H=>yf (ι:=Bool) (fun i=>[(0,.dat (vstr v1)),(2,.dat (vint v3)),(8,.dat (zj (decide (v2=0)))),(9,.dat (vstr v1)),(52,.dat (zj i))]) (fun i=>[]) (fun i=>y00 v1 v2 v3 i=some r) (fun i=>Z) ?_ ?_
        ·skip
         refine zq hN Z (qd Z (za (qp tyU9 Z) (za (vy Z Z) (qd Z (yh (j:=3) Z Z (fun h21 => ?_) (fun h21 => ?_) Z)))))
         ·exact u1 h21 H fun h22 H=>zd Z Z h21 (zf (.dat _) Z) (bE H fun x23 h24 H=>zd Z Z h21 (wq tyU9 Z Z h24) (bE H fun r25 h26 H=>zd Z Z h21 (zl (ur (x23.toNat:Int) r25 h26) ⟨.inl Z,U⟩) (zd Z Z h21 (ql Z Z) (za (zz Z (bTT h22) Z) (qe Z ⟨decide (r25=111),H,⟨Z,Z,Z,Z,Z,U⟩,U⟩)))))
         ·exact u2 h21 H fun h27 H=>zc Z Z h21 (zc Z Z h21 (zc Z Z h21 (zc Z Z h21 (za (yb Z (bFF h27) Z) (qe Z ⟨false,H,⟨Z,Z,Z,Z,Z,U⟩,U⟩)))))
        ·rintro v28 H
         replace H:y00 v1 v2 v3 v28=some r:=H
         unfold y00 at H
         refine zg _ Z (fun h29 => ?_) (fun h29 => ?_)
         ·exact tE h29 H fun H=>zb hN Z (qe Z (zq hN Z (qd Z (bE H fun l30 h31 H=>za (jc tyU9 Z Z Z h31) (qe Z ⟨(l30,8),H,⟨Z,Z,Z,Z,Z,U⟩,U⟩)))))
         ·refine fE h29 H fun H=>yf (ι:=Bool) (fun i=>[(0,.dat (vstr v1)),(2,.dat (vint v3)),(8,.dat (zj (decide (v2=0)))),(9,.dat (vstr v1)),(64,.dat (zj i))]) (fun i=>[]) (fun i=>y0z v1 v2 v3 i=some r) (fun i=>Z) ?_ ?_
          ·skip
           refine zq hN Z (qd Z (za (qp tyU9 Z) (za (vy Z Z) (qd Z (yh (j:=3) Z Z (fun h32 => ?_) (fun h32 => ?_) Z)))))
           ·exact u1 h32 H fun h33 H=>zd Z Z h32 (zf (.dat _) Z) (bE H fun x34 h35 H=>zd Z Z h32 (wq tyU9 Z Z h35) (bE H fun r36 h37 H=>zd Z Z h32 (zl (ur (x34.toNat:Int) r36 h37) ⟨.inl Z,U⟩) (zd Z Z h32 (ql Z Z) (za (zz Z (bTT h33) Z) (qe Z ⟨decide (r36=120),H,⟨Z,Z,Z,Z,Z,U⟩,U⟩)))))
           ·exact u2 h32 H fun h38 H=>zc Z Z h32 (zc Z Z h32 (zc Z Z h32 (zc Z Z h32 (za (yb Z (bFF h38) Z) (qe Z ⟨false,H,⟨Z,Z,Z,Z,Z,U⟩,U⟩)))))
          ·rintro v39 H
           replace H:y0z v1 v2 v3 v39=some r:=H
           unfold y0z at H
           refine zg _ Z (fun h40 => ?_) (fun h40 => ?_)
           ·exact tE h40 H fun H=>zb hN Z (qe Z (zq hN Z (qd Z (bE H fun l41 h42 H=>za (jc tyU9 Z Z Z h42) (qe Z ⟨(l41,16),H,⟨Z,Z,Z,Z,Z,U⟩,U⟩)))))
           ·exact fE h40 H fun H=>zb hN Z (qe Z (zq hN Z (qd Z (bE H fun l43 h44 H=>za (jc tyU9 Z Z Z h44) (qe Z ⟨(l43,8),H,⟨Z,Z,Z,Z,Z,U⟩,U⟩)))))
     ·exact fE h9 H fun H=>zk ⟨(v1,10),H,⟨Z,Z,Z,Z,Z,U⟩,U⟩
    ·refine fE h6 H fun H=>zb hN Z (za (ye (u':=verr 3) (ul (show Tryz.prog.underlying 215=some (.int .i64) from by kernel_rfl) Z) Z) ?_)
     refine qe Z (qe Z (zh ?_))
     cases H
     exact ⟨U,.inl Z,.inl Z,U⟩
  ·rintro ⟨v45,v46⟩ H
   replace H:Qj v1 v2 v3 v45 v46=some r:=H
   unfold Qj at H
   refine yf (ι:=Int) (fun i=>[(0,.dat (vstr v45)),(1,.dat (vint v46)),(2,.dat (vint i)),(8,.dat (zj (decide (v2=0)))),(9,.dat (vstr v1))]) (fun i=>[]) (fun i=>y0y v1 v2 v45 v46 i=some r) (fun i=>Z) ?_ ?_
   ·skip
    refine zb hN Z (qd Z (za (ql Z Z) (zg _ Z (fun h47 => ?_) (fun h47 => ?_))))
    ·exact tE h47 H fun H=>zq hN Z (qe Z ⟨64,H,⟨Z,Z,Z,Z,Z,U⟩,U⟩)
    ·refine fE h47 H fun H=>zb hN Z (qd Z (za (zy Z Z) (qd Z (yi Z Z (fun hc=>zf (.dat _) Z) (yi Z Z (fun hc=>qh (cnd (c:=(!(decide (v3 < 0)))) hc) Z) (za (wz Z Z (fun hb=>(cnd (c:=(!(decide (v3 < 0)))) (notI hb)))) (zg _ Z (fun h48 => ?_) (fun h48 => ?_))))))))
     ·refine tE h48 H fun H=>zb hN Z (za (ye (u':=verr 4) (ul (show Tryz.prog.underlying 215=some (.int .i64) from by kernel_rfl) Z) Z) ?_)
      refine qe Z (qe Z (zh ?_))
      cases H
      exact ⟨U,.inl Z,.inl Z,U⟩
     ·exact fE h48 H fun H=>zk ⟨v3,H,⟨Z,Z,Z,Z,Z,U⟩,U⟩
   ·rintro v49 H
    replace H:y0y v1 v2 v45 v46 v49=some r:=H
    unfold y0y at H
    refine zb hN Z (qe Z (yf (ι:=Int) (fun i=>[(0,.dat (vstr v45)),(1,.dat (vint v46)),(2,.dat (vint v49)),(8,.dat (zj (decide (v2=0)))),(9,.dat (vstr v1)),(10,.dat (vval (.int .u64 i)))]) (fun i=>[]) (fun i=>z6c v1 v2 v45 v46 v49 i=some r) (fun i=>Z) ?_ ?_))
    ·skip
     refine zb hN Z (qd Z (zx (zb hN Z (za (ql Z Z) (qe Z (zg _ Z (fun h50 => ?_) (fun h50 => ?_)))))))
     ·exact tE h50 H fun H=>zq hN Z (qe Z ⟨1844674407370955162,H,⟨Z,Z,Z,Z,Z,Z,U⟩,U⟩)
     ·refine fE h50 H fun H=>zb hN Z (za (ql Z Z) (qe Z (zg _ Z (fun h51 => ?_) (fun h51 => ?_))))
      ·exact tE h51 H fun H=>zq hN Z (qe Z ⟨1152921504606846976,H,⟨Z,Z,Z,Z,Z,Z,U⟩,U⟩)
      ·exact fE h51 H fun H=>zq hN Z (qd Z (za (jl tyU3 xm Z) (gE H fun h52 H=>za (x07 Z Z h52) (za (yw _ Z Z (.inl ⟨Z,Z⟩)) (qe Z ⟨IntKind.wrap .u64 ((IntKind.wrap .u64 (Int.tdiv 18446744073709551615 (IntKind.wrap .u64 v46)))+1),H,⟨Z,Z,Z,Z,Z,Z,U⟩,U⟩)))))
    ·rintro v53 H
     replace H:z6c v1 v2 v45 v46 v49 v53=some r:=H
     unfold z6c at H
     refine zb hN Z (qd Z (za (jl tyU3 z7m Z) (gE H fun h54 H=>za (ye (y2w Z Z h54) Z) (za (yw _ Z Z (.inr (.inl ⟨Z,Z⟩))) (qe Z (zb hN Z (qe Z (zb hN Z (qe Z (ze (zb hN Z (qd Z (za (x1c (C:=ve) tyU9 Zr tyU5 (fun _=>Z) Z) (za (yo Zr Z) (qd Z (zx (gE H fun h59 H=>wi (fun (k57:Nat) (s:Bool×Int)=>[(1,.dat (vint v46)),(8,.dat (zj (decide (v2=0)))),(9,.dat (vstr v1)),(10,.dat (vval (.int .u64 v53))),(11,.dat (vval (.int .u64 (IntKind.wrap .u64 ((shl_ .u64 1 (IntKind.wrap .u64 v49)) - 1))))),(12,.dat (zj s.1)),(13,.dat (vval (.int .u64 s.2))),(99,.dat (vlst (List.map ve (vd v45)))),(100,.dat (vint ((vd v45).length:Int))),(101,.dat (vint (k57:Int)))]) (fun (k57:Nat) (s:Bool×Int)=>[]) (false,0) H ⟨Z,Z,Z,Z,Z,Z,Z,Z,Z,Z,U⟩ U (fun _ _=>Z) ?_ ?_)))))))))))))))))
     ·rintro ⟨v55,v56⟩ H
      replace H:y81 v1 v55 v56=some r:=H
      unfold y81 at H
      refine zb hN Z (za (zy Z Z) (ze (zg _ Z (fun h=>(lt_t h).elim) (fun h => ?_))))
      refine qg (ze (yf (ι:=Bool) (fun i=>[(13,.dat (vval (.int .u64 v56))),(169,.dat (zj i))]) (fun i=>[]) (fun i=>y0x v56 i=some r) (fun i=>Z) ?_ ?_))
      ·skip
       refine zq hN Z (qd Z (qd Z (yh (j:=1) Z Z (fun h61 => ?_) (fun h61 => ?_) Z)))
       ·exact u1 h61 H fun h62 H=>zd Z Z h61 (zf (.dat _) Z) (bE H fun r63 h64 H=>zd Z Z h61 (zl (w4i v1 r63 h64) ⟨.inl Z,U⟩) (zd Z Z h61 (yt Z) (za (zz Z (bTT h62) Z) ⟨!r63,H,⟨Z,Z,U⟩,U⟩)))
       ·exact u2 h61 H fun h65 H=>zc Z Z h61 (zc Z Z h61 (zc Z Z h61 (za (yb Z (bFF h65) Z) ⟨false,H,⟨Z,Z,U⟩,U⟩)))
      ·rintro v66 H
       replace H:y0x v56 v66=some r:=H
       unfold y0x at H
       refine zg _ Z (fun h67 => ?_) (fun h67 => ?_)
       ·refine tE h67 H fun H=>zb hN Z (za (ye (u':=verr 2) (ul (show Tryz.prog.underlying 215=some (.int .i64) from by kernel_rfl) Z) Z) ?_)
        refine qe Z (qe Z (zh ?_))
        cases H
        exact ⟨U,.inl Z,.inl Z,U⟩
       ·refine fE h67 H fun H=>zk (zb hN Z (qd Z (qe Z (qe Z (zh ?_)))))
        cases H
        exact ⟨U,.inl Z,.inl Z,U⟩
     ·rintro k57 x60 ⟨v55,v56⟩ q58 h68 h69 H hq58
      replace H:y80 v2 v46 v49 v53 k57 x60 v55 v56=some q58:=H
      unfold y80 at H
      refine zb hN Z (za (zy Z Z) (ze (zg _ Z (fun h => ?_) (fun h=>(lt_f h68 h).elim))))
      refine zk (yf (ι:=Bool×Int) (fun i=>[(1,.dat (vint v46)),(8,.dat (zj (decide (v2=0)))),(9,.dat (vstr v1)),(10,.dat (vval (.int .u64 v53))),(11,.dat (vval (.int .u64 (IntKind.wrap .u64 ((shl_ .u64 1 (IntKind.wrap .u64 v49)) - 1))))),(12,.dat (zj i.1)),(13,.dat (vval (.int .u64 i.2))),(99,.dat (vlst (List.map ve (vd v45)))),(100,.dat (vint ((vd v45).length:Int))),(101,.dat (vint (k57:Int)))]) (fun i=>[]) (fun i=>y0w i.1 i.2=some q58) (fun i=>Z) ?_ ?_)
      ·skip
       refine zx (zb hN Z (za (qu x0u (fun _=>Z) Z Z h69) (za (yj tyS5 Z (yy h69) Z) (qe Z (zb hN Z (qe Z (yf (ι:=Int) (fun i=>[(1,.dat (vint v46)),(8,.dat (zj (decide (v2=0)))),(9,.dat (vstr v1)),(10,.dat (vval (.int .u64 v53))),(11,.dat (vval (.int .u64 (IntKind.wrap .u64 ((shl_ .u64 1 (IntKind.wrap .u64 v49)) - 1))))),(12,.dat (zj v55)),(13,.dat (vval (.int .u64 v56))),(16,.dat (vval (.int .u8 i))),(99,.dat (vlst (List.map ve (vd v45)))),(100,.dat (vint ((vd v45).length:Int))),(101,.dat (vint (k57:Int)))]) (fun i=>[]) (fun i=>y03 v46 v49 v53 v55 v56 i=some q58) (fun i=>Z) ?_ ?_)))))))
       ·skip
        refine zx (zb hN Z (qd Z (za (ql Z Z) (qd Z (qj Z Z (fun hc=>zf (.dat _) Z) (za (vi Z (fun hb=>(cnd (c:=(decide (x60=95))) hb)) Z) (qe Z (zg _ Z (fun h70 => ?_) (fun h70 => ?_)))))))))
        ·exact tE h70 H fun H=>zb hN Z (qe Z (qg ⟨(true,v56),H,⟨Z,Z,Z,Z,Z,Z,Z,Z,Z,Z,U⟩,U⟩))
        ·refine fE h70 H fun H=>zb hN Z (qd Z (za (vq Z Z) (qd Z (qj Z Z (fun hc=>zf (.dat _) Z) (qj Z Z (fun hc=>vq (cnd (c:=(decide (48≤x60))) hc) Z) (za (vi Z (fun hb=>(cnd (c:=(decide (48≤x60))) hb)) Z) (qe Z (zg _ Z (fun h71 => ?_) (fun h71 => ?_)))))))))
         ·exact tE h71 H fun H=>zq hN Z (qd Z (za (yw _ Z Z (.inr (.inl ⟨Z,Z⟩))) (qe Z ⟨IntKind.wrap .u8 (x60 - 48),H,⟨Z,Z,Z,Z,Z,Z,Z,Z,Z,Z,Z,U⟩,U⟩)))
         ·refine fE h71 H fun H=>yf (ι:=Bool) (fun i=>[(1,.dat (vint v46)),(8,.dat (zj (decide (v2=0)))),(9,.dat (vstr v1)),(10,.dat (vval (.int .u64 v53))),(11,.dat (vval (.int .u64 (IntKind.wrap .u64 ((shl_ .u64 1 (IntKind.wrap .u64 v49)) - 1))))),(12,.dat (zj v55)),(13,.dat (vval (.int .u64 v56))),(15,.dat (vval (.int .u8 x60))),(99,.dat (vlst (List.map ve (vd v45)))),(100,.dat (vint ((vd v45).length:Int))),(101,.dat (vint (k57:Int))),(121,.dat (zj i))]) (fun i=>[]) (fun i=>y02 v46 v49 v53 v55 v56 x60 i=some q58) (fun i=>Z) ?_ ?_
          ·skip
           refine zq hN Z (qd Z (bE H fun r72 h73 H=>za (zl (ur x60 r72 h73) ⟨.inl Z,U⟩) (za (vq Z Z) (qd Z (yh (j:=3) Z Z (fun h74 => ?_) (fun h74 => ?_) Z)))))
           ·exact u1 h74 H fun h75 H=>zd Z Z h74 (zf (.dat _) Z) (bE H fun r76 h77 H=>zd Z Z h74 (zl (ur x60 r76 h77) ⟨.inl Z,U⟩) (zd Z Z h74 (vq Z Z) (za (zz Z (bTT h75) Z) (qe Z ⟨decide (r76≤122),H,⟨Z,Z,Z,Z,Z,Z,Z,Z,Z,Z,Z,Z,U⟩,U⟩))))
           ·exact u2 h74 H fun h78 H=>zc Z Z h74 (zc Z Z h74 (zc Z Z h74 (za (yb Z (bFF h78) Z) (qe Z ⟨false,H,⟨Z,Z,Z,Z,Z,Z,Z,Z,Z,Z,Z,Z,U⟩,U⟩))))
          ·rintro v79 H
           replace H:y02 v46 v49 v53 v55 v56 x60 v79=some q58:=H
           unfold y02 at H
           refine zg _ Z (fun h80 => ?_) (fun h80 => ?_)
           ·exact tE h80 H fun H=>zq hN Z (qd Z (bE H fun r81 h82 H=>za (zl (ur x60 r81 h82) ⟨.inl Z,U⟩) (za (yw _ Z Z (.inr (.inl ⟨Z,Z⟩))) (za (yw _ Z Z (.inl ⟨Z,Z⟩)) (qe Z ⟨IntKind.wrap .u8 ((IntKind.wrap .u8 (r81 - 97))+10),H,⟨Z,Z,Z,Z,Z,Z,Z,Z,Z,Z,Z,U⟩,U⟩)))))
           ·refine fE h80 H fun H=>zb hN Z (za (ye (u':=verr 2) (ul (show Tryz.prog.underlying 215=some (.int .i64) from by kernel_rfl) Z) Z) ?_)
            refine qe Z (qe Z (zh ?_))
            replace H:=retl H hq58
            cases H
            exact ⟨U,.inl Z,.inl Z,U⟩
       ·rintro v83 H
        replace H:y03 v46 v49 v53 v55 v56 v83=some q58:=H
        unfold y03 at H
        refine ze (zb hN Z (qd Z (qd Z (za (jl tyU3 tyU5 Z) (za (vy Z Z) (zg _ Z (fun h84 => ?_) (fun h84 => ?_)))))))
        ·refine tE h84 H fun H=>zb hN Z (za (ye (u':=verr 2) (ul (show Tryz.prog.underlying 215=some (.int .i64) from by kernel_rfl) Z) Z) ?_)
         refine qe Z (qe Z (zh ?_))
         replace H:=retl H hq58
         cases H
         exact ⟨U,.inl Z,.inl Z,U⟩
        ·refine fE h84 H fun H=>zk (ze (zb hN Z (qd Z (qd Z (za (vy Z Z) (zg _ Z (fun h85 => ?_) (fun h85 => ?_)))))))
         ·refine tE h85 H fun H=>zb hN Z (qd Z (za (ye (u':=verr 1) (ul (show Tryz.prog.underlying 215=some (.int .i64) from by kernel_rfl) Z) Z) ?_))
          refine qe Z (qe Z (zh ?_))
          replace H:=retl H hq58
          cases H
          exact ⟨U,.inl Z,.inl Z,U⟩
         ·refine fE h85 H fun H=>zk (zb hN Z (qd Z (qd Z (za (jl tyU3 xm Z) (za (yw _ Z Z (.inr (.inr ⟨Z,Z⟩))) (qe Z (zb hN Z (qd Z (qd Z (za (jl tyU5 xm Z) (za (yw _ Z Z (.inl ⟨Z,Z⟩)) (qe Z (ze (zb hN Z (qd Z (qd Z (za (zy Z Z) (qd Z (yi Z Z (fun hc=>zf (.dat _) Z) (yi Z Z (fun hc=>zf (.dat _) Z) (yi Z Z (fun hc=>qh (cnd (c:=(!(decide ((IntKind.wrap .u64 ((IntKind.wrap .u64 (v56 * (IntKind.wrap .u64 v46)))+(IntKind.wrap .u64 v83))) < (IntKind.wrap .u64 (v56 * (IntKind.wrap .u64 v46))))))) hc) (cnd (c:=(!(decide ((IntKind.wrap .u64 ((IntKind.wrap .u64 (v56 * (IntKind.wrap .u64 v46)))+(IntKind.wrap .u64 v83))) < (IntKind.wrap .u64 (v56 * (IntKind.wrap .u64 v46))))))) hc)) (za (wz Z Z (fun hb=>(cnd (c:=(!(decide ((IntKind.wrap .u64 ((IntKind.wrap .u64 (v56 * (IntKind.wrap .u64 v46)))+(IntKind.wrap .u64 v83))) < (IntKind.wrap .u64 (v56 * (IntKind.wrap .u64 v46))))))) (notI hb)))) ?_))))))))))))))))))))))
          refine zg _ Z (fun h86 => ?_) (fun h86 => ?_)
          ·refine tE h86 H fun H=>zb hN Z (qd Z (za (ye (u':=verr 1) (ul (show Tryz.prog.underlying 215=some (.int .i64) from by kernel_rfl) Z) Z) ?_))
           refine qe Z (qe Z (zh ?_))
           replace H:=retl H hq58
           cases H
           exact ⟨U,.inl Z,.inl Z,U⟩
          ·exact fE h86 H fun H=>zk (zq hN Z (qd Z (qe Z ⟨(v55,IntKind.wrap .u64 ((IntKind.wrap .u64 (v56 * (IntKind.wrap .u64 v46)))+(IntKind.wrap .u64 v83))),H,⟨Z,Z,Z,Z,Z,Z,Z,Z,Z,Z,U⟩,U⟩)))
      ·rintro ⟨v87,v88⟩ H
       replace H:y0w v87 v88=some q58:=H
       unfold y0w at H
       exact zq hN Z (za (qw Z Z (by omega)) (qd Z ⟨_,qk H,⟨Z,Z,Z,Z,Z,Z,Z,Z,Z,Z,U⟩,U⟩))
theorem x4s (v1:Bs) (v2:Int) (v3:Int) (r:(Int×Int)) (H:y4b v1 v2 v3=some r):Fn Tryz.prog 168 [vstr v1,vint v2,vint v3] (zw [vint r.1,verr r.2]):=by
 refine ⟨by kernel_rfl,yd (us:=[vint r.1,verr r.2]) Tryz.func168 Z Z Z Z fun X hN => ?_⟩
 unfold y4b at H
 refine zb hN Z (qe Z (qe Z (ze (zb hN Z (qd Z (za (wy Z Z) (zg _ Z (fun h4 => ?_) (fun h4 => ?_))))))))
 ·refine tE h4 H fun H=>zb hN Z (za (ye (u':=verr 2) (ul (show Tryz.prog.underlying 215=some (.int .i64) from by kernel_rfl) Z) Z) ?_)
  refine qe Z (qe Z (zh ?_))
  cases H
  exact ⟨U,.inl Z,.inl Z,U⟩
 ·refine fE h4 H fun H=>zk (zb hN Z (qe Z (yf (ι:=Bs×Bool) (fun i=>[(0,.dat (vstr i.1)),(1,.dat (vint v2)),(2,.dat (vint v3)),(8,.dat (zj i.2))]) (fun i=>[]) (fun i=>z6d v2 v3 i.1 i.2=some r) (fun i=>Z) ?_ ?_)))
  ·skip
   refine zb hN Z (qd Z (bE H fun x5 h6 H=>za (wq tyU9 Z Z h6) (zx (zb hN Z (za (ql Z Z) (qe Z (zg _ Z (fun h7 => ?_) (fun h7 => ?_))))))))
   ·exact tE h7 H fun H=>zq hN Z (qd Z (bE H fun l8 h9 H=>za (jc tyU9 Z Z Z h9) (qe Z ⟨(l8,false),H,⟨Z,Z,Z,Z,U⟩,U⟩)))
   ·refine fE h7 H fun H=>zb hN Z (za (ql Z Z) (qe Z (zg _ Z (fun h10 => ?_) (fun h10 => ?_))))
    ·exact tE h10 H fun H=>zb hN Z (qd Z (bE H fun l11 h12 H=>za (jc tyU9 Z Z Z h12) (qe Z (zq hN Z (qe Z ⟨(l11,true),H,⟨Z,Z,Z,Z,U⟩,U⟩)))))
    ·exact fE h10 H fun H=>zk ⟨(v1,false),H,⟨Z,Z,Z,Z,U⟩,U⟩
  ·rintro ⟨v13,v14⟩ H
   replace H:z6d v2 v3 v13 v14=some r:=H
   unfold z6d at H
   refine zb hN Z (qe Z (zb hN Z (qd Z (qd Z (qd Z (bE H fun r15 h16 H=>za (zl (w4k v13 v2 v3 r15 h16) ⟨.inl Z,.inl Z,.inl Z,U⟩) (qd Z (za (ym Z Z) (za (ym Z Z) (qe Z (qe Z (ze (yf (ι:=Bool) (fun i=>[(2,.dat (vint v3)),(7,.dat (verr r15.2)),(8,.dat (zj v14)),(9,.dat (vval (.int .u64 r15.1))),(38,.dat (zj i))]) (fun i=>[]) (fun i=>y06 v3 v14 r15 i=some r) (fun i=>Z) ?_ ?_)))))))))))))
   ·skip
    refine zq hN Z (qd Z (za (y61 (n:=r15.2) (show Tryz.prog.underlying 135=some (.interface (Tryz.prog.methodsAt 135)) from by kernel_rfl) Z) ?_))
    refine qd Z (yh (j:=2) Z Z (fun h17 => ?_) (fun h17 => ?_) Z)
    ·refine u1 h17 H fun h18 H=>zd Z Z h17 (zf (.dat _) Z) (zd Z Z h17 (ye (u':=verr 1) (ul (show Tryz.prog.underlying 215=some (.int .i64) from by kernel_rfl) Z) Z) ?_)
     refine gE H fun h19 H=>zd Z Z h17 (x9k (n:=r15.2) (m:=1) (show Tryz.prog.underlying 135=some (.interface (Tryz.prog.methodsAt 135)) from by kernel_rfl) (by kernel_rfl) (by kernel_rfl) Z Z h19 (by decide)) ?_
     exact za (zz Z (bTT h18) Z) ⟨decide (r15.2≠1),H,⟨Z,Z,Z,Z,Z,U⟩,U⟩
    ·exact u2 h17 H fun h20 H=>zc Z Z h17 (zc Z Z h17 (zc Z Z h17 (za (yb Z (bFF h20) Z) ⟨false,H,⟨Z,Z,Z,Z,Z,U⟩,U⟩)))
   ·rintro v21 H
    replace H:y06 v3 v14 r15 v21=some r:=H
    unfold y06 at H
    refine zg _ Z (fun h22 => ?_) (fun h22 => ?_)
    ·refine tE h22 H fun H=>zb hN Z (qd Z (qe Z (qe Z (zh ?_))))
     cases H
     exact ⟨U,.inl Z,.inl Z,U⟩
    ·refine fE h22 H fun H=>zk (yf (ι:=Int) (fun i=>[(2,.dat (vint i)),(8,.dat (zj v14)),(9,.dat (vval (.int .u64 r15.1)))]) (fun i=>[]) (fun i=>y05 v14 r15 i=some r) (fun i=>Z) ?_ ?_)
     ·skip
      refine zb hN Z (qd Z (za (ql Z Z) (zg _ Z (fun h23 => ?_) (fun h23 => ?_))))
      ·exact tE h23 H fun H=>zq hN Z (qe Z ⟨64,H,⟨Z,Z,Z,U⟩,U⟩)
      ·exact fE h23 H fun H=>zk ⟨v3,H,⟨Z,Z,Z,U⟩,U⟩
     ·rintro v24 H
      replace H:y05 v14 r15 v24=some r:=H
      unfold y05 at H
      refine zb hN Z (qd Z (za (yw _ Z Z (.inr (.inl ⟨Z,Z⟩))) (za (jl tyU3 z7m Z) (gE H fun h25 H=>za (ye (y2w Z Z h25) Z) (qe Z (ze (zb hN Z (qd Z (za (yt Z) (qd Z (qj Z Z (fun hc=>zf (.dat _) Z) (qj Z Z (fun hc=>zf (.dat _) Z) (qj Z Z (fun hc=>vy (cnd (c:=(!v14)) hc) (cnd (c:=(!v14)) hc)) (za (vi Z (fun hb=>(cnd (c:=(!v14)) hb)) Z) (zg _ Z (fun h26 => ?_) (fun h26 => ?_))))))))))))))))
      ·refine tE h26 H fun H=>zb hN Z (qd Z (za (yw _ Z Z (.inr (.inl ⟨Z,Z⟩))) (za (jl xm tyU2 Z) (za (ye (u':=verr 1) (ul (show Tryz.prog.underlying 215=some (.int .i64) from by kernel_rfl) Z) Z) ?_))))
       refine qe Z (qe Z (zh ?_))
       cases H
       exact ⟨U,.inl Z,.inl Z,U⟩
      ·refine fE h26 H fun H=>zk (ze (zb hN Z (qd Z (qd Z (qj Z Z (fun hc=>zf (.dat _) Z) (qj Z Z (fun hc=>zf (.dat _) Z) (qj Z Z (fun hc=>qh (cnd (c:=v14) hc) (cnd (c:=v14) hc)) (za (vi Z (fun hb=>(cnd (c:=v14) hb)) Z) (zg _ Z (fun h27 => ?_) (fun h27 => ?_))))))))))
       ·refine tE h27 H fun H=>zb hN Z (qd Z (za (jl xm tyU2 Z) (gE H fun h28 H=>za (y6y Z h28) (za (ye (u':=verr 1) (ul (show Tryz.prog.underlying 215=some (.int .i64) from by kernel_rfl) Z) Z) ?_))))
        refine qe Z (qe Z (zh ?_))
        cases H
        exact ⟨U,.inl Z,.inl Z,U⟩
       ·refine fE h27 H fun H=>zk (zb hN Z (qd Z (za (jl xm tyU2 Z) (qe Z (yf (ι:=Int) (fun i=>[(11,.dat (vint i))]) (fun i=>[]) (fun i=>y04 i=some r) (fun i=>Z) ?_ ?_)))))
        ·skip
         refine zb hN Z (qd Z (zg _ Z (fun h29 => ?_) (fun h29 => ?_)))
         ·exact tE h29 H fun H=>zq hN Z (qd Z (gE H fun h30 H=>za (y6y Z h30) (qe Z ⟨(-(IntKind.wrap .i64 r15.1)),H,⟨Z,U⟩,U⟩)))
         ·exact fE h29 H fun H=>zk ⟨IntKind.wrap .i64 r15.1,H,⟨Z,U⟩,U⟩
        ·rintro v31 H
         replace H:y04 v31=some r:=H
         unfold y04 at H
         refine zb hN Z (qd Z (qe Z (qe Z (zh ?_))))
         cases H
         exact ⟨U,.inl Z,.inl Z,U⟩
theorem x4b (fn s:Bs) (base bits e r:Int) (H:y70 fn s base bits e=some r):Fn Tryz.prog 169 [vstr fn,vstr s,vint base,vint bits,verr e] (zw [verr r]):=by
 obtain ⟨⟨h1,h2,h3⟩,h4⟩:=gif H
 cases h4
 refine xx (by kernel_rfl) fun M w vs hM h => ?_
 rcases h3 with rfl | rfl
 ·have hv:=kr (us:=[.string ⟨fn.toArray⟩,.string ⟨s.toArray⟩,.int .i64 base,.int .i64 bits,.iface 215 (.int .i64 2)]) h
  subst hv
  obtain ⟨tp,p,hc⟩:=w9c hM
  refine (Tryz.strconv_toError_syntax ⟨fn.toArray⟩ ⟨s.toArray⟩ base bits (.iface tp p) w (by simp [ByteArray.size]; omega) hc (.inr ⟨tp,p,Z⟩)).mono ?_
  rintro e w' ⟨N,rfl,_,_,hb⟩
  exact ⟨_,Z,⟨_,_,Z⟩,Kp.of_below hb⟩
 ·have hv:=kr (us:=[.string ⟨fn.toArray⟩,.string ⟨s.toArray⟩,.int .i64 base,.int .i64 bits,.iface 215 (.int .i64 1)]) h
  subst hv
  obtain ⟨tp,p,hc⟩:=w9d hM
  refine (Tryz.strconv_toError_range ⟨fn.toArray⟩ ⟨s.toArray⟩ base bits (.iface tp p) w (by simp [ByteArray.size]; omega) hc (.inr ⟨tp,p,Z⟩)).mono ?_
  rintro e w' ⟨N,rfl,_,_,hb⟩
  exact ⟨_,Z,⟨_,_,Z⟩,Kp.of_below hb⟩
theorem x4c (s1:Bs) (base2:Int) (bitSize3:Int) (r:(Int×Int)) (H:Wv s1 base2 bitSize3=some r):Fn Tryz.prog 114 [vstr s1,vint base2,vint bitSize3] (zw [vint r.1,verr r.2]):=by
 refine ⟨by kernel_rfl,yd (us:=[vint r.1,verr r.2]) Tryz.func114 Z Z Z Z fun X hN => ?_⟩
 unfold Wv at H
 refine zb hN Z (qe Z (qe Z (zb hN Z (qd Z (qd Z (qd Z (bE H fun r4 h5 H=>za (zl (x4s s1 base2 bitSize3 r4 h5) ⟨.inl Z,.inl Z,.inl Z,U⟩) (qd Z (za (ym Z Z) (za (ym Z Z) (qe Z (qe Z (ze (zb hN Z (qd Z (za (y61 (n:=r4.2) (show Tryz.prog.underlying 135=some (.interface (Tryz.prog.methodsAt 135)) from by kernel_rfl) Z) ?_))))))))))))))))
 refine zg _ Z (fun h6 => ?_) (fun h6 => ?_)
 ·refine tE h6 H fun H=>zb hN Z (qd Z (qd Z (qd Z (qd Z (qd Z (bE H fun r7 h8 H=>za (zl (x4b [80,97,114,115,101,73,110,116] s1 base2 bitSize3 r4.2 r7 h8) ⟨.inl Z,.inl Z,.inl Z,.inl Z,.inl Z,U⟩) (qe Z (qe Z (zh ?_)))))))))
  cases H
  exact ⟨U,.inl Z,.inl Z,U⟩
 ·refine fE h6 H fun H=>zk (zb hN Z (qd Z (qe Z (qe Z (zh ?_)))))
  cases H
  exact ⟨U,.inl Z,.inl Z,U⟩
theorem w4m (i1:Int) (base2:Int) (r:(Bs)) (H:y4d i1 base2=some r):Fn Tryz.prog 167 [vint i1,vint base2] (zw [vstr r]):=by
 refine ⟨by kernel_rfl,yd (us:=[vstr r]) Tryz.func167 Z Z Z Z fun X hN => ?_⟩
 unfold y4d at H
 refine zb hN Z (qe Z (ze (zb hN Z (qd Z (za (ql Z Z) (zg _ Z (fun h3 => ?_) (fun h3 => ?_)))))))
 ·refine tE h3 H fun H=>ze (zb hN Z (qd Z (za (vq Z Z) (qd Z (qj Z Z (fun hc=>zf (.dat _) Z) (qj Z Z (fun hc=>zy (cnd (c:=(decide (0≤i1))) hc) Z) (za (vi Z (fun hb=>(cnd (c:=(decide (0≤i1))) hb)) Z) (zg _ Z (fun h4 => ?_) (fun h4 => ?_)))))))))
  ·refine tE h4 H fun H=>zb hN Z (qd Z (bE H fun r5 h6 H=>za (zl (x4q i1 r5 h6) ⟨.inl Z,U⟩) (qe Z (zh ?_))))
   cases H
   exact ⟨U,.inl Z,U⟩
  ·refine fE h4 H fun H=>?_
   cases H
 ·refine fE h3 H fun H=>zk (zb hN Z (qd Z (za (jl tyU2 xm Z) (qd Z (qd Z (za (zy Z Z) (bE H fun r7 h8 H=>za (zl (x4r ([]:(List Int)) (IntKind.wrap .u64 i1) base2 (decide (i1 < 0)) false r7 h8) ⟨.inr ⟨Z,Z⟩,.inl Z,.inl Z,.inl Z,.inl Z,U⟩) (qd Z (za (ym Z Z) (za (ym Z Z) (qe Z (qe Z (zb hN Z (qd Z (qe Z (zh ?_))))))))))))))))
  cases H
  exact ⟨U,.inl Z,U⟩
theorem x4e (i1:Int) (base2:Int) (r:(Bs)) (H:Wx i1 base2=some r):Fn Tryz.prog 113 [vint i1,vint base2] (zw [vstr r]):=by
 refine ⟨by kernel_rfl,yd (us:=[vstr r]) Tryz.func113 Z Z Z Z fun X hN => ?_⟩
 unfold Wx at H
 refine zb hN Z (qe Z (zb hN Z (qd Z (qd Z (bE H fun r3 h4 H=>za (zl (w4m i1 base2 r3 h4) ⟨.inl Z,.inl Z,U⟩) (qe Z (zh ?_)))))))
 cases H
 exact ⟨U,.inl Z,U⟩
theorem y4w (s1:Bs) (r:(Bs)) (H:z0c s1=some r):Fn Tryz.prog 52 [vstr s1] (zw [vstr r]):=by
 refine ⟨by kernel_rfl,yd (us:=[vstr r]) Tryz.func52 Z Z Z Z fun X hN => ?_⟩
 unfold z0c at H
 refine zb hN Z (qe Z (zb hN Z (qe Z (ze (zb hN Z (qd Z (za (qp tyU9 Z) (qd Z (zx (gE H fun h5 H=>wi (fun (k3:Nat) (s:Bs)=>[(0,.dat (vstr s1)),(3,.dat (vstr s)),(10,.dat (vint (s1.length:Int))),(11,.dat (vint (k3:Int)))]) (fun (k3:Nat) (s:Bs)=>[]) [] H ⟨Z,Z,Z,Z,U⟩ U (fun _ _=>Z) ?_ ?_))))))))))
 ·rintro bits2 H
  replace H:z2x bits2=some r:=H
  unfold z2x at H
  refine zb hN Z (za (zy Z Z) (ze (zg _ Z (fun h=>(lt_t h).elim) (fun h => ?_))))
  refine qg (zb hN Z (qe Z (yf (ι:=Bs) (fun i=>[(5,.dat (vstr i))]) (fun i=>[]) (fun i=>z2w i=some r) (fun i=>Z) ?_ ?_)))
  ·skip
   refine zx (Zq (fun (s:Bs×Bs)=>[(3,.dat (vstr s.1)),(5,.dat (vstr s.2))]) (fun (s:Bs×Bs)=>[]) (bits2,[]) H ⟨Z,Z,U⟩ U (fun _=>Z) ?_)
   rintro ⟨bits7,out8⟩ q9 H hq9
   replace H:xf bits7 out8=some q9:=H
   unfold xf at H
   refine ze (zb hN Z (qd Z (za (jj Z Z) (zg _ Z (fun h10 => ?_) (fun h10 => ?_)))))
   ·refine tE h10 H fun H=>zk (zx (zb hN Z (qd Z (za (qp tyU9 Z) (za (y6z Z Z) (qe Z (ze (wx mixed hN Z Z (qd Z (qd Z (bE H fun l11 h12 H=>za (jc tyU9 Z Z Z h12) (qd Z (bE H fun l13 h14 H=>za (jc tyU9 Z Z Z h14) (gE H fun h15 H=>za (wt Z Z (Nat.le_trans h15 (by decide))) (bE H fun r16 h17 H=>za (zl (x4c (l11++l13) 2 64 r16 h17) ⟨.inl Z,.inl Z,.inl Z,U⟩) (qd Z (za (ym Z Z) (za (ym Z Z) ?_))))))))))))))))))
    refine qe Z (qe Z ⟨Z,?_⟩)
    exact zb hN Z (qd Z (qd Z (qd Z (za (yw _ Z Z (.inl ⟨Z,Z⟩)) (bE H fun l18 h19 H=>za (jc tyU9 Z Z Z h19) (gE H fun h20 H=>za (wt Z Z (Nat.le_trans h20 (by decide))) (qe Z (zq hN Z (qd Z (qd Z (bE H fun l21 h22 H=>za (jc tyU9 Z Z Z h22) (qe Z ⟨_,qk H,⟨Z,Z,U⟩,U⟩))))))))))))
   ·refine fE h10 H fun H=>qg ?_
    replace H:=outl H hq9
    exact ⟨out8,H,⟨Z,U⟩,U⟩
  ·rintro out23 H
   replace H:z2w out23=some r:=H
   unfold z2w at H
   refine zb hN Z (qd Z (qe Z (zh ?_)))
   cases H
   exact ⟨U,.inl Z,U⟩
 ·rintro k3 x6 bits2 q4 h24 h25 H hq4
  replace H:z2v k3 x6 bits2=some q4:=H
  unfold z2v at H
  refine zb hN Z (za (zy Z Z) (ze (zg _ Z (fun h => ?_) (fun h=>(lt_f h24 h).elim))))
  exact zk (ze (zx (zb hN Z (qd Z (qe Z (zq hN Z (qd Z (qd Z (qd Z (za (wq tyU9 Z Z h25) (za (jl tyU5 tyU2 Z) (za (yw _ Z Z (.inl ⟨Z,Z⟩)) (bE H fun r26 h27 H=>za (zl (x4e (wr (256+(IntKind.wrap .i64 (x6.toNat:Int)))) 2 r26 h27) ⟨.inl Z,.inl Z,U⟩) (bE H fun l28 h29 H=>za (jc tyU9 Z Z Z h29) (gE H fun h30 H=>za (wt Z Z (Nat.le_trans h30 (by decide))) (qe Z (zq hN Z (za (qw Z Z (by omega)) (qd Z ⟨_,qk H,⟨Z,Z,Z,Z,U⟩,U⟩)))))))))))))))))))
theorem w46 (l1:(List ya)) (c2:zm) (v3:Int) (r:(Bs×Int)) (H:z9w l1 c2 v3=some r):Fn Tryz.prog 51 [vlst (List.map wg l1),vagg (yq c2),vint v3] (zw [vstr r.1,vint r.2]):=by
 refine ⟨by kernel_rfl,yd (us:=[vstr r.1,vint r.2]) Tryz.func51 Z Z Z Z fun X hN => ?_⟩
 unfold z9w at H
 refine zb hN Z (zi (jf 1 Z) Z (qe Z (qe Z (zb hN Z (zu (vo yn Z Z Z) Z (bE H fun r4 h5 H=>za (zl (w5b c2 r4 h5) ⟨.inl Z,U⟩) (qd Z (za (ym Z Z) (za (ym Z Z) (qe Z (qe Z (ze (zb hN Z (qd Z (za (wa Z Z) (zg _ Z (fun h6 => ?_) (fun h6 => ?_)))))))))))))))))
 ·refine tE h6 H fun H=>zb hN Z (qd Z (qe Z (qe Z (zh ?_))))
  cases H
  exact ⟨U,.inl Z,.inl Z,U⟩
 ·refine fE h6 H fun H=>zk (ze (zb hN Z (qd Z (bE H fun r7 h8 H=>za (zl (y8r v3 r7 h8) ⟨.inl Z,U⟩) (za (yt Z) (zg _ Z (fun h9 => ?_) (fun h9 => ?_)))))))
  ·refine tE h9 H fun H=>zb hN Z (qe Z (qe Z (zh ?_)))
   cases H
   exact ⟨U,.inl Z,.inl Z,U⟩
  ·refine fE h9 H fun H=>zk (zb hN Z (qd Z (qd Z (bE H fun r10 h11 H=>za (zl (w4x l1 v3 r10 h11) ⟨.inl Z,.inl Z,U⟩) (qd Z (za (ym Z Z) (za (ym Z Z) (zi (we 2 Qu Z) Z (zi (yp ub Z Z Z Z) Z (qe Z (ze (zx (zb hN Z (qd Z (za (yt Z) (qe Z (zg _ Z (fun h12 => ?_) (fun h12 => ?_))))))))))))))))))
   ·refine tE h12 H fun H=>zb hN Z (qe Z (qe Z (zh ?_)))
    cases H
    exact ⟨U,.inl Z,.inl Z,U⟩
   ·refine fE h12 H fun H=>zb hN Z (za (zn Za Z) (zu (zp tyS3 Z Z) Z (za (zn Wd Z) (zu (zp tyS3 Z Z) Z (za (qh Z Z) (qe Z (zg _ Z (fun h13 => ?_) (fun h13 => ?_))))))))
    ·refine tE h13 H fun H=>zb hN Z (qe Z (qe Z (zh ?_)))
     cases H
     exact ⟨U,.inl Z,.inl Z,U⟩
    ·refine fE h13 H fun H=>zk (ze (wx mixed hN Z Z (za (zn Zx Z) (zu (zp tyS9 Z Z) Z (gE H fun h14 H=>za (wt Z Z (Nat.le_trans h14 (by decide))) (qd Z (bE H fun r15 h16 H=>za (zl (y4w r4.1 r15 h16) ⟨.inl Z,U⟩) (gE H fun h17 H=>za (wt Z Z (Nat.le_trans h17 (by decide))) (qe Z ⟨Z,?_⟩)))))))))
     refine zb hN Z (qd Z (gE H fun h18 H=>za (wt Z Z (Nat.le_trans h18 (by decide))) (za (zn z33 Z) (zu (zp tyS9 Z Z) Z (qd Z (bE H fun r19 h20 H=>za (zl (z2f r10.1.Secret ((r10.1.Id++[46])++r15) r19 h20) ⟨.inl Z,.inl Z,U⟩) (gE H fun h21 H=>za (wt Z Z (Nat.le_trans h21 (by decide))) (qe Z (qe Z (zh ?_))))))))))
     cases H
     exact ⟨U,.inl Z,.inl Z,U⟩
theorem w3y (s p q:Bs) (n:Int) (r:Bs) (H:y32 s p q n=some r):Fn Tryz.prog 119 [vstr s,vstr p,vstr q,vint n] (zw [vstr r]):=by
 unfold y32 at H
 obtain ⟨⟨h1,h2,h3⟩,h4⟩:=gif H
 cases h4
 refine xx (by kernel_rfl) fun M w vs hM h => ?_
 have hv:=kr (us:=[.string ⟨s.toArray⟩,.string ⟨p.toArray⟩,.string ⟨q.toArray⟩,.int .i64 n]) h
 subst hv
 obtain ⟨m,hm⟩:=y30 hM
 have hle:=Lib.countB_le ⟨p.toArray⟩ (by simpa [ByteArray.size] using h2) _ ⟨s.toArray⟩ (Nat.le_refl _)
 have e1:(ByteArray.mk s.toArray).size=s.length:=by simp [ByteArray.size]
 have e2:(ByteArray.mk q.toArray).size=q.length:=by simp [ByteArray.size]
 have hmul:Lib.countB ⟨s.toArray⟩ ⟨p.toArray⟩ * q.length≤1000001 * 1000000:=Nat.mul_le_mul (by omega) h3
 refine (Tryz.strings_Replace ⟨s.toArray⟩ ⟨p.toArray⟩ ⟨q.toArray⟩ n m w (by rw [e1]; omega) hm (by simpa [ByteArray.size] using h2) (by rw [e1,e2]; omega)).mono ?_
 rintro e w' ⟨rfl,hb⟩
 exact ⟨_,Z,Z,Kp.of_below hb⟩

end Go.Proofs.YtndabcepiekebaaGreatDoor
