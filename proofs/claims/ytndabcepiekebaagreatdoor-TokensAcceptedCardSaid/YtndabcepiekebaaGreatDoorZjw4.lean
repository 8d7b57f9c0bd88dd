/- Walks along the models. Printed by a program. -/
import Derived.Test.YtndabcepiekebaaGreatDoorZjw3
namespace Go.Proofs.YtndabcepiekebaaGreatDoor
open Go.RowKit
set_option linter.unusedVariables false
set_option maxRecDepth 100000
set_option maxHeartbeats 2000000
theorem y2x (l:List z0i):Fn Tryz.prog 166 [vlst (List.map z06 l)] (z1r [vfn 237 [y1q [[vlst (List.map z06 l)]] 0 0]]):=by
 refine ⟨by kernel_rfl,z1e (us:=[vfn 237 [y1q [[vlst (List.map z06 l)]] 0 0]]) Tryz.func166 rfl rfl rfl rfl fun X hN => ?_⟩
 refine z0c ?_
 refine z0b hN rfl ?_
 refine z0j (y8i 1 rfl rfl) rfl ?_
 refine qe rfl ?_
 refine z0c ?_
 refine y3w 1 [vlst (List.map z06 l)] rfl rfl ?_
 refine z0b hN rfl ?_
 refine z0a (y5c (us:=[_]) ⟨rfl,trivial⟩) ?_
 refine qe rfl ?_
 refine z0m ?_
 exact ⟨trivial,.inl rfl,trivial⟩
theorem y2q:w6g Tryz.prog 237 5 false:=by
 intro vals M l cap J Jx W hn hvn hk hc hY h0
 have hnt:Tryz.f237.ntmps=19:=rfl
 refine callsIn_of_wp Tryz.func237 rfl trivial ?_ rfl
 rw [hnt]
 obtain ⟨vc,hvc⟩:∃ vc:V,vc=vand (y1q [[vlst (vals.map fun c=>c.map vval)]] 0 0) cap:=⟨_,rfl⟩
 have hwk:Wk vc (y1q [[vlst (vals.map fun c=>c.map vval)]] 0 0):=by rw [hvc]; exact w8h _ _
 have hvm:∀ W',(y1q [[vlst (vals.map fun c=>c.map vval)]] 0 0).p W' M cap→vc.p W' M cap:=fun W' h=>by rw [hvc]; exact ⟨rfl,h⟩
 have hvo:∀ W' M' v,vc.p W' M' v→v=cap:=fun W' M' v h=>by rw [hvc] at h; exact h.1
 obtain ⟨hM,hcp⟩:=hc _ _ h0
 refine wpIn_seq (wpIn_mono (y9x (N:=19) hM ?hN ?hD [(0,vval (yv l)),(1,vc)] ?hr (Q:=fun e f=>e = .normal∧f 0 = .dat (vval (yv l))∧f 1 = .dat vc∧f 3 = .dat (vint ((vals.length:Int) - 1))) fun X hN => ?_) ?_)
 case hN=>simp
 case hD=>rfl
 case hr=>exact ⟨by simp [yv,vval],by simpa using hvm _ hcp,trivial⟩
 ·refine z0b hN rfl ?_
  refine z0a (x2a x67 rfl hwk rfl rfl) ?_
  refine z0a (z6r (C:=fun c:List Value=>c.map vval) x5w rfl) ?_
  refine z0a (y76 rfl rfl (by omega)) ?_
  refine qe rfl ?_
  exact ⟨rfl,rfl,rfl,rfl⟩
 rintro e a W1 ⟨hk1,hN,hD,f,own,g,M',hfr,rfl,e0,e1,e3⟩
 have t0:a.tmps.getD 0 undef=yv l:=by have:=hfr 0; rw [e0] at this; exact this
 have t1:a.tmps.getD 1 undef=cap:=by have:=hfr 1; rw [e1] at this; exact hvo _ _ _ this
 have t3:a.tmps.getD 3 undef = .int .i64 ((vals.length:Int) - 1):=by have:=hfr 3; rw [e3] at this; exact this
 refine wpIn_block (wpIn_loop_rounds (vals.length+1) ?_)
 have hJ1:=hk _ _ _ h0 hk1
 clear hk1 hfr e0 e1 e3 hcp hM h0
 suffices key:∀ m,m≤vals.length→∀ a W,a.tmps.size=19→a.defers=[]→a.tmps.getD 0 undef=yv l→a.tmps.getD 1 undef=cap→a.tmps.getD 3 undef = .int .i64 ((m:Int) - 1)→J m W→Code.roundsIn Fence.wide 0 Tryz.prog _ _ (m+1) a W from key _ (Nat.le_refl _) a W1 hN hD t0 t1 t3 hJ1
 clear t0 t1 t3 hN hD hJ1
 intro m
 induction m with
 | zero =>
  intro _ a W hN hD t0 t1 t3 hJ
  obtain ⟨hM,hcp⟩:=hc _ _ hJ
  rw [roundsIn_succ]
  refine wpIn_seq (wpIn_seq (wpIn_mono (y9x (N:=19) hM hN hD [(3,vint (-1))] ⟨by rw [t3]; rfl,trivial⟩ (Q:=fun e f=>e = .normal∧f 8 = .dat (z05 (decide ((0:Int)≤-1)))) fun X hN => ?_) ?_))
  ·refine z0b hN rfl ?_
   refine qd rfl ?_
   refine z0a (z87 rfl rfl) ?_
   exact ⟨rfl,rfl⟩
  rintro e a' W' ⟨hk1,hN',hD',f,own,g,M',hfr,rfl,e8⟩
  have t8:a'.tmps.getD 8 undef = .bool false:=by have:=hfr 8; rw [e8] at this; exact this
  exact wpIn_cond_false t8 (wpIn_exit ⟨hD',_,results_none rfl _ _ _,⟨_,rfl⟩,.inl (hk _ _ _ hJ hk1)⟩)
 | succ m ih =>
  intro hm a W hN hD t0 t1 t3 hJ
  obtain ⟨hM,hcp⟩:=hc _ _ hJ
  have hm3:(((m+1:Nat):Int) - 1)=(m:Int):=by omega
  rw [hm3] at t3
  rw [roundsIn_succ]
  refine wpIn_seq (wpIn_seq (wpIn_mono (y9x (N:=19) hM hN hD [(0,vval (yv l)),(1,vc),(3,vint (m:Int))] ⟨t0,by rw [t1]; exact hvm _ hcp,by rw [t3]; rfl,trivial⟩ (Q:=fun e f=>e = .normal∧f 0 = .dat (vval (yv l))∧f 1 = .dat vc∧f 3 = .dat (vint (m:Int))∧f 8 = .dat (z05 (decide ((0:Int)≤(m:Int))))) fun X hN => ?_) ?_))
  ·refine z0b hN rfl ?_
   refine qd rfl ?_
   refine z0a (z87 rfl rfl) ?_
   exact ⟨rfl,rfl,rfl,rfl,rfl⟩
  rintro e a1 W1 ⟨hk1,hN1,hD1,f,own,g,M',hfr,rfl,e0,e1,e3,e8⟩
  have u0:a1.tmps.getD 0 undef=yv l:=by have:=hfr 0; rw [e0] at this; exact this
  have u1:a1.tmps.getD 1 undef=cap:=by have:=hfr 1; rw [e1] at this; exact hvo _ _ _ this
  have u3:a1.tmps.getD 3 undef = .int .i64 (m:Int):=by have:=hfr 3; rw [e3] at this; exact this
  have u8:a1.tmps.getD 8 undef = .bool true:=by
   have:=hfr 8; rw [e8,decide_eq_true (by omega)] at this; exact this
  refine wpIn_cond_true u8 (wpIn_skip ?_)
  have hJ1:=hk _ _ _ hJ hk1
  clear hfr e0 e1 e3 e8 hk1 hJ hM hcp t0 t1 t3 hN hD
  obtain ⟨hM1,hcp1⟩:=hc _ _ hJ1
  refine wpIn_seq (wpIn_block (wpIn_seq ?_))
  refine wpIn_region ?_
  obtain ⟨X,hX⟩:∃ X:Ctx,X=⟨fun b=>M b,W1,[],19,none,[]⟩:=⟨_,rfl⟩
  have hrel:Rel X (frs (datL [(0,vval (yv l)),(1,vc),(3,vint (m:Int))])) (fun _=>none) ⟨fun _=>none,fun _ _=>none⟩ a1 W1:=by
   subst hX
   have he:Ext M (Mof ⟨fun b=>M b,W1,[],19,none,[]⟩ ⟨fun _=>none,fun _ _=>none⟩ (fun _=>none)) W1 W1:=⟨Nat.le_refl _,fun _ _ _ _=>rfl,fun b _ hb=>by
    rcases hb with hb | ⟨id,o,ho,_⟩
    ·exact hb
    ·cases ho⟩
   refine ⟨Kp.refl _ _,⟨fun b hb=>⟨hM1.1 b hb,by simp⟩,hM1.2.1,fun b hb=>⟨hM1.2.2 b hb,by simp⟩⟩,hN1,hD1,fun t=>x8v [(0,vval (yv l)),(1,vc),(3,vint (m:Int))] ⟨u0,by rw [u1]; exact vc.keep he (hvm _ hcp1),by rw [u3]; rfl,trivial⟩ t,fun id o ho=>(by cases ho),fun id _ o _ b ho=>(by cases ho),fun id o b ho=>(by cases ho),fun id _=>⟨rfl,fun _=>rfl⟩,fun id e size es h=>(by cases h)⟩
  have hNX:X.N=19:=by rw [hX]
  have hRX:X.R=none:=by rw [hX]
  have hDX:X.D=[]:=by rw [hX]
  have hKX:∀ W',Kp X.S0 X.w0 W'→Kp [] W1 W':=fun W' h=>by rw [hX] at h; exact h
  obtain ⟨el,hel⟩:∃ el,vals[m]?=some el:=⟨_,List.getElem?_eq_getElem (by omega)⟩
  have hell:(el.map vval).length=5:=by rw [List.length_map]; exact hvn el (List.mem_of_getElem? hel)
  have helm:(vals.map fun c=>c.map vval)[m]?=some (el.map vval):=by rw [List.getElem?_map,hel]; rfl
  have helD:vals.getD m []=el:=by rw [List.getD_eq_getElem?_getD,hel]; rfl
  clear hX
  refine opsR hRX (n:=6+2) rfl ?_
  refine x8t (P:=Tryz.prog) (X:=X) (by rw [hNX]; rfl) [_,_,_,_,_,_] [_,_] 0 _ _ [] _ a1 W1 rfl hrel ?_
  refine qd rfl ?_
  refine qd rfl ?_
  refine z0a (x2a x67 rfl hwk rfl rfl) ?_
  refine qd rfl ?_
  refine z0a (x4y (k:=m) y86 rfl rfl (by rw [List.length_map]; omega) (fun c hc=>by
   obtain ⟨c',hc',rfl⟩:=List.mem_map.1 hc
   rw [List.length_map]; exact hvn c' hc')) ?_
  refine z0a (y15 y58 rfl helm hell) ?_
  intro g2 a2 W2 k2
  have v0:a2.tmps.getD 0 undef=yv l:=k2.fr 0
  have v1:a2.tmps.getD 1 undef=cap:=hvo _ _ _ (k2.fr 1)
  have v3:a2.tmps.getD 3 undef = .int .i64 (m:Int):=k2.fr 3
  have v11:a2.tmps.getD 11 undef=yv l:=k2.fr 11
  have v12:a2.tmps.getD 12 undef = .int .i64 (m:Int):=k2.fr 12
  have v16:a2.tmps.getD 16 undef = .agg el.toArray:=by
   obtain ⟨lv,h1,h2,h3⟩:(vagg (el.map vval)).p W2 _ (a2.tmps.getD 16 undef):=k2.fr 16
   rw [h1]
   have:lv=el:=by
    apply List.ext_getElem?
    intro j
    rcases Nat.lt_or_ge j el.length with hj | hj
    ·obtain ⟨y,p1,p2,_⟩:=h3 j (vval el[j]) (by rw [List.getElem?_map,List.getElem?_eq_getElem hj]; rfl)
     rw [p1,List.getElem?_eq_getElem hj]; exact congrArg some p2
    ·rw [List.getElem?_eq_none hj,List.getElem?_eq_none (by rw [List.length_map] at h2; omega)]
   rw [this]
  have hN2:a2.tmps.size=19:=k2.n.trans hNX
  have hD2:a2.defers=[]:=k2.df.trans hDX
  have hJ2:=hk _ _ _ hJ1 (hKX _ k2.kp)
  clear k2 hrel
  obtain ⟨fn,tm,asg,bdy,hrun,hR⟩:=hY m W2 (by omega) hJ2
  rw [helD] at hrun
  change (Instr.yield l #[.int .i64 (m:Int),.agg el.toArray]).run Tryz.prog W2=_ at hrun
  rw [hRX]
  show wpOpsIn Fence.wide 0 Tryz.prog _ _ [6,7] a2 W2
  refine x63 rfl rfl rfl v11 (by simp [Act.eval,v12,v16]) hrun (hR.mono ?_)
  rintro e W3 (⟨rfl,hJ3⟩ | ⟨rfl,hJ3⟩)
  ·obtain ⟨hM3,hcp3⟩:=hc _ _ hJ3
   refine ⟨_,rfl,?_⟩
   obtain ⟨a3,ha3⟩:∃ a3:Act,a3=a2.put (some 17) (.bool true):=⟨_,rfl⟩
   have hN3:a3.tmps.size=19:=by rw [ha3]; simpa [Act.put] using hN2
   have hD3:a3.defers=[]:=by rw [ha3]; exact hD2
   have g3:∀ t,a3.tmps.getD t undef=if t=17 then .bool true else a2.tmps.getD t undef:=fun t=>by rw [ha3]; exact x3e hN2 (by decide) t
   show wpOpsIn Fence.wide 0 Tryz.prog _ _ (List.range' 7 1) (a2.put (some 17) (.bool true)) W3
   rw [← ha3]
   refine opsT (N:=19) (i:=7) (os:=[_]) hM3 hN3 hD3 [(0,vval (yv l)),(1,vc),(3,vint (m:Int)),(17,z05 true)] ⟨?_,?_,?_,?_,trivial⟩ (Q':=fun f=>f 0 = .dat (vval (yv l))∧f 1 = .dat vc∧f 3 = .dat (vint (m:Int))∧f 18 = .dat (z05 (!true))) rfl rfl (fun _ _ => ?_) ?_
   ·show _=_
    rw [g3,if_neg (by decide)]; exact v0
   ·rw [g3,if_neg (by decide),v1]; exact hvm _ hcp3
   ·show _=_
    rw [g3,if_neg (by decide)]; exact v3
   ·show _=_
    rw [g3,if_pos rfl]
   ·refine z0a (z2j rfl) ?_
    exact ⟨rfl,rfl,rfl,rfl⟩
   intro a4 W4 hk4 hN4 hD4 f g M' hfr ⟨e0,e1,e3,e18⟩
   have z0:a4.tmps.getD 0 undef=yv l:=by have:=hfr 0; rw [e0] at this; exact this
   have z1:a4.tmps.getD 1 undef=cap:=by have:=hfr 1; rw [e1] at this; exact hvo _ _ _ this
   have z3:a4.tmps.getD 3 undef = .int .i64 (m:Int):=by have:=hfr 3; rw [e3] at this; exact this
   have z18:a4.tmps.getD 18 undef = .bool false:=by have:=hfr 18; rw [e18] at this; exact this
   refine wpIn_cond_false z18 (wpIn_skip ?_)
   have hJ4:=hk _ _ _ hJ3 hk4
   obtain ⟨hM4,hcp4⟩:=hc _ _ hJ4
   refine wpIn_mono (y9x (N:=19) hM4 hN4 hD4 [(0,vval (yv l)),(1,vc),(3,vint (m:Int))] ⟨z0,by rw [z1]; exact hvm _ hcp4,by rw [z3]; rfl,trivial⟩ (Q:=fun e f=>e = .normal∧f 0 = .dat (vval (yv l))∧f 1 = .dat vc∧f 3 = .dat (vint ((m:Int) - 1))) fun X hN => ?_) ?_
   ·refine z0b hN rfl ?_
    refine qd rfl ?_
    refine z0a (y76 rfl rfl (by omega)) ?_
    refine qe rfl ?_
    exact ⟨rfl,rfl,rfl,rfl⟩
   rintro e a5 W5 ⟨hk5,hN5,hD5,f5,own5,g5,M5,hfr5,rfl,e0,e1,e3⟩
   exact ih (by omega) a5 W5 hN5 hD5 (by have:=hfr5 0; rw [e0] at this; exact this) (by have:=hfr5 1; rw [e1] at this; exact hvo _ _ _ this) (by have:=hfr5 3; rw [e3] at this; exact this) (hk _ _ _ hJ4 hk5)
  ·refine ⟨_,rfl,?_⟩
   obtain ⟨a3,ha3⟩:∃ a3:Act,a3=a2.put (some 17) (.bool false):=⟨_,rfl⟩
   show wpOpsIn Fence.wide 0 Tryz.prog _ _ [7] (a2.put (some 17) (.bool false)) W3
   rw [← ha3]
   have g3:∀ t,a3.tmps.getD t undef=if t=17 then .bool false else a2.tmps.getD t undef:=fun t=>by rw [ha3]; exact x3e hN2 (by decide) t
   have hN3:a3.tmps.size=19:=by rw [ha3]; simpa [Act.put] using hN2
   have hD3:a3.defers=[]:=by rw [ha3]; exact hD2
   have v17:a3.tmps.getD 17 undef = .bool false:=by rw [g3,if_pos rfl]
   rw [wpOpsIn_cons]
   unfold wpOpIn
   refine ⟨fun _ _=>trivial,?_⟩
   have hrun:∀ o:Oper,o.op = .unOp .not 4 (.tmp 17)→(o.semAt Fence.wide.round a3.eval).run Tryz.prog W3 = .ok (.value (.bool true)) W3:=fun o ho=>by
    rw [Oper.semAt_eq Fence.wide.round a3.eval o (fun c hc=>by rw [ho] at hc; cases hc)]
    have h1:a3.eval (.tmp 17) = .bool false:=v17
    simp only [execOp,ho,h1,Op.unary]
    rfl
   rw [hrun _ rfl,Oper.uponIn_value]
   have t18:(a3.put (some 18) (.bool true)).tmps.getD 18 undef = .bool true:=by rw [show (a3.put (some 18) (.bool true)).tmps=a3.tmps.setIfInBounds 18 (.bool true) from rfl,x3e hN3 (by decide),if_pos rfl]
   exact wpIn_cond_true t18 (wpIn_ret ⟨hD3,_,results_none rfl _ _ _,⟨_,rfl⟩,.inr hJ3⟩)

theorem y9i (l1:(List z0i)) (v2:Int) (r:(z0i×Bool)) (H:z5c l1 v2=some r):Fn Tryz.prog 112 [vlst (List.map z06 l1),vint v2] (z1r [vagg (z06 r.1),z05 r.2]):=by
 refine ⟨by kernel_rfl,w44 (us:=[vagg (z06 r.1),z05 r.2]) Tryz.func112 rfl rfl rfl rfl fun X hN hR => ?_⟩
 unfold z5c at H
 refine w5x hR ?_
 refine z0b hN rfl ?_
 refine z0j (y8i 1 rfl rfl) rfl ?_
 refine z0j (z2s 2 x0w rfl) rfl ?_
 refine z0j (z2s 3 tyZ4 rfl) rfl ?_
 refine w0l hR ?_
 refine z0b hN rfl ?_
 refine qd rfl ?_
 refine z0a (z0q (y2x l1) ⟨.inl rfl,trivial⟩) ?_
 refine ⟨rfl,?_⟩
 obtain ⟨h4,H⟩:=gif H
 refine w83 (s0:=()) hR hN [(3,.ptr 1 0),(4,.ptr 2 0),(5,.ptr 3 0),(9,.dat (vfn 237 [y1q [[vlst (List.map z06 l1)]] 0 0]))] [(1,.box none 3 [.dat (vint v2)]),(2,.box none 123 [.dat (vstr []),.dat (vstr []),.dat (vint 0),.dat (vint 0),.dat (vint 0)]),(3,.box none 4 [.dat (z05 false)])] (fun (s:Unit)=>[(1,.box none 3 [.dat (vint v2)]),(2,.box none 123 [.dat (vstr []),.dat (vstr []),.dat (vint 0),.dat (vint 0),.dat (vint 0)]),(3,.box none 4 [.dat (z05 false)])]) y2q (fun _=>rfl) (enters_of Tryz.func237 (by kernel_rfl) rfl) rfl h4 H ⟨rfl,rfl,rfl,rfl,trivial⟩ ⟨rfl,rfl,rfl,trivial⟩ rfl rfl (fun _=>rfl) (fun _=>rfl) (fun _ _=>rfl) (fun _ _=>rfl) (fun _=>rfl) (fun _=>rfl) (by decide) (by decide) ?_ ?_
 ·rintro A X k5 x6 ⟨⟩ q3 hN h7 h8 H hq3
  replace H:z4j v2 k5 x6=some q3:=H
  unfold z4j at H
  refine z0b hN rfl ?_
  refine z0j (z2s 4 x0w rfl) rfl ?_
  refine z0j (z1b y58 rfl rfl rfl rfl) rfl ?_
  refine ⟨rfl,[(3,.ptr 1 0),(4,.ptr 2 0),(5,.ptr 3 0),(7,.ptr 4 0)],[(1,.box (some (A 1)) 3 [.dat (vint v2)]),(2,.box (some (A 2)) 123 [.dat (vstr []),.dat (vstr []),.dat (vint 0),.dat (vint 0),.dat (vint 0)]),(3,.box (some (A 3)) 4 [.dat (z05 false)]),(4,.box none 123 [.dat (vstr x6.Id),.dat (vstr x6.Secret),.dat (vint x6.From),.dat (vint x6.To),.dat (vint x6.Until)])],⟨rfl,rfl,rfl,rfl,trivial⟩,⟨rfl,rfl,rfl,rfl,trivial⟩,rfl,rfl,rfl,fun X hN => ?_⟩
  refine z0v ?_
  refine z0c ?_
  refine z0b hN rfl ?_
  refine z0a (z0r y5a rfl) ?_
  refine z0w (z0o tyS3 rfl rfl) rfl ?_
  refine z0w (z0o tyS3 rfl rfl) rfl ?_
  refine z0a (y0f rfl rfl) ?_
  refine qd rfl ?_
  refine x44 rfl rfl (fun hc=>z0o tyS3 rfl rfl) rfl y3x ?_
  refine z57 rfl rfl (fun hc=>z0r y6k rfl) ?_
  refine x44 rfl rfl (fun hc=>z0o tyS3 (cnd (c:=(decide (x6.From≤v2))) hc) rfl) rfl y3x ?_
  refine z57 rfl rfl (fun hc=>z04 (cnd (c:=(decide (x6.From≤v2))) hc) (cnd (c:=(decide (x6.From≤v2))) hc)) ?_
  refine z0a (z2c rfl (fun hb=>(cnd (c:=(decide (x6.From≤v2))) hb)) rfl) ?_
  refine z0g _ rfl (fun h9 => ?_) (fun h9 => ?_)
  ·replace H:=ift h9 H
   refine z0c ?_
   refine z0b hN rfl ?_
   refine z0w (z6d y58 rfl rfl rfl) rfl ?_
   refine z0j (z1b y58 rfl rfl rfl rfl) rfl ?_
   refine z0j (z15 tyS4 rfl rfl rfl rfl) rfl ?_
   refine z0m ?_
   replace H:=retl H hq3
   cases H
   exact ⟨[(1,.box none 3 [.dat (vint v2)]),(2,.box none 123 [.dat (vstr x6.Id),.dat (vstr x6.Secret),.dat (vint x6.From),.dat (vint x6.To),.dat (vint x6.Until)]),(3,.box none 4 [.dat (z05 true)])],rfl,rfl,rfl,rfl,⟨rfl,rfl,rfl,trivial⟩,⟨.inl ⟨_,_,_,z06 x6,rfl,rfl,rfl,rfl,y58⟩,.inr ⟨_,_,rfl,rfl,tyS4⟩,trivial⟩⟩
  ·replace H:=iff_ h9 H
   refine z0l ?_
   exact ⟨_,z84 H,⟨rfl,rfl,rfl,trivial⟩⟩
 ·rintro A X ⟨⟩ hN hR H
  replace H:y0e=some r:=H
  unfold y0e at H
  refine z0c ?_
  refine z0b hN rfl ?_
  refine z0a (z1a (u':=vagg (z06 (z0i.mk [] [] 0 0 0))) (z2f [] x0w w53 rfl trivial) rfl) ?_
  refine z0j (z1b y58 rfl rfl rfl rfl) rfl ?_
  refine z0j (z15 tyS4 rfl rfl rfl rfl) rfl ?_
  refine z0m ?_
  cases H
  exact ⟨.inr rfl,[(4,.ptr 2 0),(5,.ptr 3 0)],[(2,.box (some (A 2)) 123 [.dat (vstr []),.dat (vstr []),.dat (vint 0),.dat (vint 0),.dat (vint 0)]),(3,.box (some (A 3)) 4 [.dat (z05 false)])],⟨rfl,rfl,trivial⟩,⟨rfl,rfl,trivial⟩,rfl,rfl,⟨.inl ⟨_,_,_,z06 (z0i.mk [] [] 0 0 0),rfl,rfl,rfl,rfl,y58⟩,.inr ⟨_,_,rfl,rfl,tyS4⟩,trivial⟩⟩
theorem z1q (c1:Int) (r:(Int)) (H:z1k c1=some r):Fn Tryz.prog 290 [vval (.int .u8 c1)] (z1r [vval (.int .u8 r)]):=by
 refine ⟨by kernel_rfl,z1e (us:=[vval (.int .u8 r)]) Tryz.func290 rfl rfl rfl rfl fun X hN => ?_⟩
 unfold z1k at H
 refine z0c ?_
 refine z0b hN rfl ?_
 refine qe rfl ?_
 refine z0c ?_
 refine z0b hN rfl ?_
 refine qd rfl ?_
 refine z0a (z1a (w0z rfl rfl) rfl) ?_
 refine qe rfl ?_
 refine z0m ?_
 cases H
 exact ⟨trivial,.inl rfl,trivial⟩
theorem y46 (v1:Bs) (r:(Bool)) (H:z9b v1=some r):Fn Tryz.prog 291 [vstr v1] (z1r [z05 r]):=by
 refine ⟨by kernel_rfl,z1e (us:=[z05 r]) Tryz.func291 rfl rfl rfl rfl fun X hN => ?_⟩
 unfold z9b at H
 refine z0c ?_
 refine z0b hN rfl ?_
 refine qe rfl ?_
 refine z0c ?_
 refine z0b hN rfl ?_
 refine qe rfl ?_
 refine z0c ?_
 refine z0b hN rfl ?_
 refine qe rfl ?_
 refine z03 (ι:=Bs) (fun i=>[(0,.dat (vstr i)),(3,.dat (vval (.int .i32 94))),(4,.dat (vint 0))]) (fun i=>[]) (fun i=>z4e i=some r) (fun i=>rfl) ?_ ?_
 ·skip
  refine z03 (ι:=Bool) (fun i=>[(0,.dat (vstr v1)),(3,.dat (vval (.int .i32 94))),(4,.dat (vint 0)),(18,.dat (z05 i))]) (fun i=>[]) (fun i=>z3c v1 i=some r) (fun i=>rfl) ?_ ?_
  ·skip
   refine z0b hN rfl ?_
   refine qd rfl ?_
   refine z0a (z1m tyU9 rfl) ?_
   refine z0a (z87 rfl rfl) ?_
   refine qd rfl ?_
   refine z09 (j:=3) rfl rfl (fun h2 => ?_) (fun h2 => ?_) rfl
   ·have h3:=un1 h2
    replace H:=ift h3 H
    refine z0p rfl rfl h2 (z0h (.dat _) rfl) ?_
    obtain ⟨x4,h5,H⟩:=bnd H
    refine z0p rfl rfl h2 (y00 tyU9 rfl rfl h5) ?_
    refine z0p rfl rfl h2 (z2z rfl rfl) ?_
    refine z0p rfl rfl h2 (z0h (.dat _) rfl) ?_
    refine z09 (j:=7) rfl rfl (fun h6 => ?_) (fun h6 => ?_) rfl
    ·have h7:=un3 h6
     replace H:=iff_ h7 H
     refine z0p rfl rfl h6 (z0h (.dat _) rfl) ?_
     refine z0p rfl rfl h6 (y00 tyU9 rfl rfl h5) ?_
     refine z0p rfl rfl h6 (z2z rfl rfl) ?_
     refine z0p rfl rfl h2 (z0z rfl (bFF h7) rfl) ?_
     refine z0a (z00 rfl (bTT h3) rfl) ?_
     exact ⟨decide ((x4.toNat:Int)=43),H,⟨rfl,rfl,rfl,rfl,trivial⟩,trivial⟩
    ·have h8:=un4 h6
     replace H:=ift h8 H
     refine z0f rfl rfl h6 ?_
     refine z0f rfl rfl h6 ?_
     refine z0f rfl rfl h6 ?_
     refine z0p rfl rfl h2 (z00 rfl (bTT h8) rfl) ?_
     refine z0a (z00 rfl (bTT h3) rfl) ?_
     exact ⟨true,H,⟨rfl,rfl,rfl,rfl,trivial⟩,trivial⟩
   ·have h9:=un2 h2
    replace H:=iff_ h9 H
    refine z0f rfl rfl h2 ?_
    refine z0f rfl rfl h2 ?_
    refine z0f rfl rfl h2 ?_
    refine z0f rfl rfl h2 ?_
    refine z01 rfl rfl ?_
    refine z01 rfl rfl ?_
    refine z01 rfl rfl ?_
    refine z0f rfl rfl h2 ?_
    refine z0a (z0z rfl (bFF h9) rfl) ?_
    exact ⟨false,H,⟨rfl,rfl,rfl,rfl,trivial⟩,trivial⟩
  ·rintro v10 H
   replace H:z3c v1 v10=some r:=H
   unfold z3c at H
   refine z0g _ rfl (fun h11 => ?_) (fun h11 => ?_)
   ·replace H:=ift h11 H
    refine z0b hN rfl ?_
    refine qd rfl ?_
    obtain ⟨l12,h13,H⟩:=bnd H
    refine z0a (y14 tyU9 rfl rfl rfl h13) ?_
    refine qe rfl ?_
    exact ⟨l12,H,⟨rfl,rfl,rfl,trivial⟩,trivial⟩
   ·replace H:=iff_ h11 H
    refine z0l ?_
    exact ⟨v1,H,⟨rfl,rfl,rfl,trivial⟩,trivial⟩
 ·rintro v14 H
  replace H:z4e v14=some r:=H
  unfold z4e at H
  refine z0c ?_
  refine z0b hN rfl ?_
  refine qe rfl ?_
  refine z03 (ι:=Int×Int×Bool) (fun i=>[(0,.dat (vstr v14)),(3,.dat (vval (.int .i32 i.1))),(4,.dat (vint i.2.1)),(5,.dat (z05 i.2.2))]) (fun i=>[]) (fun i=>z4d v14 i.1 i.2.1 i.2.2=some r) (fun i=>rfl) ?_ ?_
  ·skip
   refine z03 (ι:=Bool) (fun i=>[(0,.dat (vstr v14)),(3,.dat (vval (.int .i32 94))),(4,.dat (vint 0)),(5,.dat (z05 false)),(46,.dat (z05 i))]) (fun i=>[]) (fun i=>z16 v14 i=some r) (fun i=>rfl) ?_ ?_
   ·skip
    refine z0b hN rfl ?_
    refine qd rfl ?_
    refine z0a (z1m tyU9 rfl) ?_
    refine z0a (z87 rfl rfl) ?_
    refine qd rfl ?_
    refine z09 (j:=3) rfl rfl (fun h15 => ?_) (fun h15 => ?_) rfl
    ·have h16:=un1 h15
     replace H:=ift h16 H
     refine z0p rfl rfl h15 (z0h (.dat _) rfl) ?_
     obtain ⟨x17,h18,H⟩:=bnd H
     refine z0p rfl rfl h15 (y00 tyU9 rfl rfl h18) ?_
     refine z0p rfl rfl h15 (z2z rfl rfl) ?_
     refine z0a (z00 rfl (bTT h16) rfl) ?_
     refine qd rfl ?_
     refine z09 (j:=8) rfl rfl (fun h19 => ?_) (fun h19 => ?_) rfl
     ·have h20:=un1 h19
      replace H:=ift h20 H
      refine z0p rfl rfl h19 (z0h (.dat _) rfl) ?_
      obtain ⟨x21,h22,H⟩:=bnd H
      refine z0p rfl rfl h19 (y00 tyU9 rfl rfl h22) ?_
      obtain ⟨r23,h24,H⟩:=bnd H
      refine z0p rfl rfl h19 (z0q (z1q (x21.toNat:Int) r23 h24) ⟨.inl rfl,trivial⟩) ?_
      refine z0p rfl rfl h19 (z2z rfl rfl) ?_
      refine z0p rfl rfl h19 (z0h (.dat _) rfl) ?_
      refine z09 (j:=13) rfl rfl (fun h25 => ?_) (fun h25 => ?_) rfl
      ·have h26:=un3 h25
       replace H:=iff_ h26 H
       refine z0p rfl rfl h25 (z0h (.dat _) rfl) ?_
       refine z0p rfl rfl h25 (y00 tyU9 rfl rfl h22) ?_
       obtain ⟨r27,h28,H⟩:=bnd H
       refine z0p rfl rfl h25 (z0q (z1q (x21.toNat:Int) r27 h28) ⟨.inl rfl,trivial⟩) ?_
       refine z0p rfl rfl h25 (z2z rfl rfl) ?_
       refine z0p rfl rfl h19 (z0z rfl (bFF h26) rfl) ?_
       refine z0p rfl rfl h19 (z0h (.dat _) rfl) ?_
       refine z09 (j:=19) rfl rfl (fun h29 => ?_) (fun h29 => ?_) rfl
       ·have h30:=un3 h29
        replace H:=iff_ h30 H
        refine z0p rfl rfl h29 (z0h (.dat _) rfl) ?_
        refine z0p rfl rfl h29 (y00 tyU9 rfl rfl h22) ?_
        obtain ⟨r31,h32,H⟩:=bnd H
        refine z0p rfl rfl h29 (z0q (z1q (x21.toNat:Int) r31 h32) ⟨.inl rfl,trivial⟩) ?_
        refine z0p rfl rfl h29 (z2z rfl rfl) ?_
        refine z0p rfl rfl h19 (z0z rfl (bFF h30) rfl) ?_
        refine z0a (z00 rfl (bTT h20) rfl) ?_
        exact ⟨decide (r31=120),H,⟨rfl,rfl,rfl,rfl,rfl,trivial⟩,trivial⟩
       ·have h33:=un4 h29
        replace H:=ift h33 H
        refine z0f rfl rfl h29 ?_
        refine z0f rfl rfl h29 ?_
        refine z0f rfl rfl h29 ?_
        refine z0f rfl rfl h29 ?_
        refine z0p rfl rfl h19 (z00 rfl (bTT h33) rfl) ?_
        refine z0a (z00 rfl (bTT h20) rfl) ?_
        exact ⟨true,H,⟨rfl,rfl,rfl,rfl,rfl,trivial⟩,trivial⟩
      ·have h34:=un4 h25
       replace H:=ift h34 H
       refine z0f rfl rfl h25 ?_
       refine z0f rfl rfl h25 ?_
       refine z0f rfl rfl h25 ?_
       refine z0f rfl rfl h25 ?_
       refine z0p rfl rfl h19 (z00 rfl (bTT h34) rfl) ?_
       refine z0p rfl rfl h19 (z0h (.dat _) rfl) ?_
       refine z0f rfl rfl rfl ?_
       refine z0f rfl rfl rfl ?_
       refine z0f rfl rfl rfl ?_
       refine z0f rfl rfl rfl ?_
       refine z0p rfl rfl h19 (z00 rfl rfl rfl) ?_
       refine z0a (z00 rfl (bTT h20) rfl) ?_
       exact ⟨true,H,⟨rfl,rfl,rfl,rfl,rfl,trivial⟩,trivial⟩
     ·have h35:=un2 h19
      replace H:=iff_ h35 H
      refine z0f rfl rfl h19 ?_
      refine z0f rfl rfl h19 ?_
      refine z0f rfl rfl h19 ?_
      refine z0f rfl rfl h19 ?_
      refine z0f rfl rfl h19 ?_
      refine z01 rfl rfl ?_
      refine z01 rfl rfl ?_
      refine z01 rfl rfl ?_
      refine z01 rfl rfl ?_
      refine z0f rfl rfl h19 ?_
      refine z0f rfl rfl h19 ?_
      refine z01 rfl rfl ?_
      refine z01 rfl rfl ?_
      refine z01 rfl rfl ?_
      refine z01 rfl rfl ?_
      refine z0f rfl rfl h19 ?_
      refine z0a (z0z rfl (bFF h35) rfl) ?_
      exact ⟨false,H,⟨rfl,rfl,rfl,rfl,rfl,trivial⟩,trivial⟩
    ·have h36:=un2 h15
     replace H:=iff_ h36 H
     refine z0f rfl rfl h15 ?_
     refine z0f rfl rfl h15 ?_
     refine z0f rfl rfl h15 ?_
     refine z0a (z0z rfl (bFF h36) rfl) ?_
     refine qd rfl ?_
     refine z0f rfl rfl rfl ?_
     refine z0f rfl rfl rfl ?_
     refine z0f rfl rfl rfl ?_
     refine z0f rfl rfl rfl ?_
     refine z0f rfl rfl rfl ?_
     refine z01 rfl rfl ?_
     refine z01 rfl rfl ?_
     refine z01 rfl rfl ?_
     refine z01 rfl rfl ?_
     refine z0f rfl rfl rfl ?_
     refine z0f rfl rfl rfl ?_
     refine z01 rfl rfl ?_
     refine z01 rfl rfl ?_
     refine z01 rfl rfl ?_
     refine z01 rfl rfl ?_
     refine z0f rfl rfl rfl ?_
     refine z0a (z0z rfl rfl rfl) ?_
     exact ⟨false,H,⟨rfl,rfl,rfl,rfl,rfl,trivial⟩,trivial⟩
   ·rintro v37 H
    replace H:z16 v14 v37=some r:=H
    unfold z16 at H
    refine z0g _ rfl (fun h38 => ?_) (fun h38 => ?_)
    ·replace H:=ift h38 H
     refine z0c ?_
     refine z0b hN rfl ?_
     refine qe rfl ?_
     refine z0c ?_
     refine z0b hN rfl ?_
     refine qe rfl ?_
     refine z0b hN rfl ?_
     refine qd rfl ?_
     obtain ⟨x39,h40,H⟩:=bnd H
     refine z0a (y00 tyU9 rfl rfl h40) ?_
     obtain ⟨r41,h42,H⟩:=bnd H
     refine z0a (z0q (z1q (x39.toNat:Int) r41 h42) ⟨.inl rfl,trivial⟩) ?_
     refine z0a (z2z rfl rfl) ?_
     refine qe rfl ?_
     exact ⟨(48,2,decide (r41=120)),H,⟨rfl,rfl,rfl,rfl,trivial⟩,trivial⟩
    ·replace H:=iff_ h38 H
     refine z0l ?_
     exact ⟨(94,0,false),H,⟨rfl,rfl,rfl,rfl,trivial⟩,trivial⟩
  ·rintro ⟨v43,v44,v45⟩ H
   replace H:z4d v14 v43 v44 v45=some r:=H
   unfold z4d at H
   refine z03 (ι:=Int) (fun i=>[(3,.dat (vval (.int .i32 i)))]) (fun i=>[]) (fun i=>z6n i=some r) (fun i=>rfl) ?_ ?_
   ·skip
    refine z0v ?_
    refine y55 (fun (s:Int×Int)=>[(0,.dat (vstr v14)),(3,.dat (vval (.int .i32 s.1))),(4,.dat (vint s.2)),(5,.dat (z05 v45))]) (fun (s:Int×Int)=>[]) (v43,v44) H ⟨rfl,rfl,rfl,rfl,trivial⟩ trivial (fun _=>rfl) ?_
    rintro ⟨v46,v47⟩ q48 H hq48
    replace H:z8q v14 v45 v46 v47=some q48:=H
    unfold z8q at H
    refine z0c ?_
    refine z0c ?_
    refine z0b hN rfl ?_
    refine qd rfl ?_
    refine qd rfl ?_
    refine z0a (z1m tyU9 rfl) ?_
    refine z0a (z04 rfl rfl) ?_
    refine z0g _ rfl (fun h49 => ?_) (fun h49 => ?_)
    ·replace H:=ift h49 H
     refine z0l ?_
     refine z03 (ι:=Int) (fun i=>[(0,.dat (vstr v14)),(3,.dat (vval (.int .i32 i))),(4,.dat (vint v47)),(5,.dat (z05 v45))]) (fun i=>[]) (fun i=>z3b v47 i=some q48) (fun i=>rfl) ?_ ?_
     ·skip
      refine z0v ?_
      refine z0c ?_
      refine z03 (ι:=Bool) (fun i=>[(0,.dat (vstr v14)),(3,.dat (vval (.int .i32 v46))),(4,.dat (vint v47)),(5,.dat (z05 v45)),(83,.dat (z05 i))]) (fun i=>[]) (fun i=>z1o v14 v46 v47 i=some q48) (fun i=>rfl) ?_ ?_
      ·skip
       refine z0b hN rfl ?_
       refine qd rfl ?_
       refine qd rfl ?_
       obtain ⟨x50,h51,H⟩:=bnd H
       refine z0a (y7k tyU9 rfl rfl h51) ?_
       refine z0a (y0f rfl rfl) ?_
       refine qd rfl ?_
       refine z09 (j:=4) rfl rfl (fun h52 => ?_) (fun h52 => ?_) rfl
       ·have h53:=un1 h52
        replace H:=ift h53 H
        refine z0p rfl rfl h52 (z0h (.dat _) rfl) ?_
        refine z0p rfl rfl h52 (z0h (.dat _) rfl) ?_
        refine z0p rfl rfl h52 (y7k tyU9 rfl rfl h51) ?_
        refine z0p rfl rfl h52 (y0f rfl rfl) ?_
        refine z0a (z00 rfl (bTT h53) rfl) ?_
        refine qd rfl ?_
        refine z09 (j:=10) rfl rfl (fun h54 => ?_) (fun h54 => ?_) rfl
        ·have h55:=un3 h54
         replace H:=iff_ h55 H
         refine z0p rfl rfl h54 (z0h (.dat _) rfl) ?_
         refine z0p rfl rfl h54 (z0h (.dat _) rfl) ?_
         refine z09 (j:=12) rfl rfl (fun h56 => ?_) (fun h56 => ?_) rfl
         ·have h57:=un1 h56
          replace H:=ift h57 H
          refine z0p rfl rfl h56 (z0h (.dat _) rfl) ?_
          refine z0p rfl rfl h56 (z0h (.dat _) rfl) ?_
          refine z0p rfl rfl h56 (y7k tyU9 rfl rfl h51) ?_
          obtain ⟨r58,h59,H⟩:=bnd H
          refine z0p rfl rfl h56 (z0q (z1q (x50.toNat:Int) r58 h59) ⟨.inl rfl,trivial⟩) ?_
          refine z0p rfl rfl h56 (y0f rfl rfl) ?_
          refine z0p rfl rfl h54 (z00 rfl (bTT h57) rfl) ?_
          refine z0p rfl rfl h54 (z0h (.dat _) rfl) ?_
          refine z09 (j:=19) rfl rfl (fun h60 => ?_) (fun h60 => ?_) rfl
          ·have h61:=un1 h60
           replace H:=ift h61 H
           refine z0p rfl rfl h60 (z0h (.dat _) rfl) ?_
           refine z0p rfl rfl h60 (z0h (.dat _) rfl) ?_
           refine z0p rfl rfl h60 (y7k tyU9 rfl rfl h51) ?_
           obtain ⟨r62,h63,H⟩:=bnd H
           refine z0p rfl rfl h60 (z0q (z1q (x50.toNat:Int) r62 h63) ⟨.inl rfl,trivial⟩) ?_
           refine z0p rfl rfl h60 (y0f rfl rfl) ?_
           refine z0p rfl rfl h54 (z00 rfl (bTT h61) rfl) ?_
           refine z0a (z0z rfl (bFF h55) rfl) ?_
           exact ⟨decide (r62≤102),H,⟨rfl,rfl,rfl,rfl,rfl,trivial⟩,trivial⟩
          ·have h64:=un2 h60
           replace H:=iff_ h64 H
           refine z0f rfl rfl h60 ?_
           refine z0f rfl rfl h60 ?_
           refine z0f rfl rfl h60 ?_
           refine z0f rfl rfl h60 ?_
           refine z0f rfl rfl h60 ?_
           refine z0p rfl rfl h54 (z0z rfl (bFF h64) rfl) ?_
           refine z0a (z0z rfl (bFF h55) rfl) ?_
           exact ⟨false,H,⟨rfl,rfl,rfl,rfl,rfl,trivial⟩,trivial⟩
         ·have h65:=un2 h56
          replace H:=iff_ h65 H
          refine z0f rfl rfl h56 ?_
          refine z0f rfl rfl h56 ?_
          refine z0f rfl rfl h56 ?_
          refine z0f rfl rfl h56 ?_
          refine z0f rfl rfl h56 ?_
          refine z0p rfl rfl h54 (z0z rfl (bFF h65) rfl) ?_
          refine z0p rfl rfl h54 (z0h (.dat _) rfl) ?_
          refine z0f rfl rfl rfl ?_
          refine z0f rfl rfl rfl ?_
          refine z0f rfl rfl rfl ?_
          refine z0f rfl rfl rfl ?_
          refine z0f rfl rfl rfl ?_
          refine z0p rfl rfl h54 (z0z rfl rfl rfl) ?_
          refine z0a (z0z rfl (bFF h55) rfl) ?_
          exact ⟨false,H,⟨rfl,rfl,rfl,rfl,rfl,trivial⟩,trivial⟩
        ·have h66:=un4 h54
         replace H:=ift h66 H
         refine z0f rfl rfl h54 ?_
         refine z0f rfl rfl h54 ?_
         refine z01 rfl rfl ?_
         refine z01 rfl rfl ?_
         refine z01 rfl rfl ?_
         refine z01 rfl rfl ?_
         refine z01 rfl rfl ?_
         refine z0f rfl rfl h54 ?_
         refine z0f rfl rfl h54 ?_
         refine z01 rfl rfl ?_
         refine z01 rfl rfl ?_
         refine z01 rfl rfl ?_
         refine z01 rfl rfl ?_
         refine z01 rfl rfl ?_
         refine z0f rfl rfl h54 ?_
         refine z0a (z00 rfl (bTT h66) rfl) ?_
         exact ⟨true,H,⟨rfl,rfl,rfl,rfl,rfl,trivial⟩,trivial⟩
       ·have h67:=un2 h52
        replace H:=iff_ h67 H
        refine z0f rfl rfl h52 ?_
        refine z0f rfl rfl h52 ?_
        refine z0f rfl rfl h52 ?_
        refine z0f rfl rfl h52 ?_
        refine z0a (z0z rfl (bFF h67) rfl) ?_
        refine qd rfl ?_
        refine z0p rfl rfl rfl (z0h (.dat _) rfl) ?_
        refine z0p rfl rfl rfl (z0h (.dat _) rfl) ?_
        refine z09 (j:=12) rfl rfl (fun h68 => ?_) (fun h68 => ?_) rfl
        ·have h69:=un1 h68
         replace H:=ift h69 H
         refine z0p rfl rfl h68 (z0h (.dat _) rfl) ?_
         refine z0p rfl rfl h68 (z0h (.dat _) rfl) ?_
         refine z0p rfl rfl h68 (y7k tyU9 rfl rfl h51) ?_
         obtain ⟨r70,h71,H⟩:=bnd H
         refine z0p rfl rfl h68 (z0q (z1q (x50.toNat:Int) r70 h71) ⟨.inl rfl,trivial⟩) ?_
         refine z0p rfl rfl h68 (y0f rfl rfl) ?_
         refine z0p rfl rfl rfl (z00 rfl (bTT h69) rfl) ?_
         refine z0p rfl rfl rfl (z0h (.dat _) rfl) ?_
         refine z09 (j:=19) rfl rfl (fun h72 => ?_) (fun h72 => ?_) rfl
         ·have h73:=un1 h72
          replace H:=ift h73 H
          refine z0p rfl rfl h72 (z0h (.dat _) rfl) ?_
          refine z0p rfl rfl h72 (z0h (.dat _) rfl) ?_
          refine z0p rfl rfl h72 (y7k tyU9 rfl rfl h51) ?_
          obtain ⟨r74,h75,H⟩:=bnd H
          refine z0p rfl rfl h72 (z0q (z1q (x50.toNat:Int) r74 h75) ⟨.inl rfl,trivial⟩) ?_
          refine z0p rfl rfl h72 (y0f rfl rfl) ?_
          refine z0p rfl rfl rfl (z00 rfl (bTT h73) rfl) ?_
          refine z0a (z0z rfl rfl rfl) ?_
          exact ⟨decide (r74≤102),H,⟨rfl,rfl,rfl,rfl,rfl,trivial⟩,trivial⟩
         ·have h76:=un2 h72
          replace H:=iff_ h76 H
          refine z0f rfl rfl h72 ?_
          refine z0f rfl rfl h72 ?_
          refine z0f rfl rfl h72 ?_
          refine z0f rfl rfl h72 ?_
          refine z0f rfl rfl h72 ?_
          refine z0p rfl rfl rfl (z0z rfl (bFF h76) rfl) ?_
          refine z0a (z0z rfl rfl rfl) ?_
          exact ⟨false,H,⟨rfl,rfl,rfl,rfl,rfl,trivial⟩,trivial⟩
        ·have h77:=un2 h68
         replace H:=iff_ h77 H
         refine z0f rfl rfl h68 ?_
         refine z0f rfl rfl h68 ?_
         refine z0f rfl rfl h68 ?_
         refine z0f rfl rfl h68 ?_
         refine z0f rfl rfl h68 ?_
         refine z0p rfl rfl rfl (z0z rfl (bFF h77) rfl) ?_
         refine z0p rfl rfl rfl (z0h (.dat _) rfl) ?_
         refine z0f rfl rfl rfl ?_
         refine z0f rfl rfl rfl ?_
         refine z0f rfl rfl rfl ?_
         refine z0f rfl rfl rfl ?_
         refine z0f rfl rfl rfl ?_
         refine z0p rfl rfl rfl (z0z rfl rfl rfl) ?_
         refine z0a (z0z rfl rfl rfl) ?_
         exact ⟨false,H,⟨rfl,rfl,rfl,rfl,rfl,trivial⟩,trivial⟩
      ·rintro v78 H
       replace H:z1o v14 v46 v47 v78=some q48:=H
       unfold z1o at H
       refine z0g _ rfl (fun h79 => ?_) (fun h79 => ?_)
       ·replace H:=ift h79 H
        refine z0c ?_
        refine z0b hN rfl ?_
        refine qe rfl ?_
        refine z1u ?_
        exact ⟨48,H,⟨rfl,rfl,rfl,rfl,trivial⟩,trivial⟩
       ·replace H:=iff_ h79 H
        refine z0l ?_
        refine z0c ?_
        refine z0c ?_
        refine z0b hN rfl ?_
        refine qd rfl ?_
        refine qd rfl ?_
        obtain ⟨x80,h81,H⟩:=bnd H
        refine z0a (y7k tyU9 rfl rfl h81) ?_
        refine z0a (z2z rfl rfl) ?_
        refine z0g _ rfl (fun h82 => ?_) (fun h82 => ?_)
        ·replace H:=ift h82 H
         refine z0c ?_
         refine z0c ?_
         refine z0b hN rfl ?_
         refine qd rfl ?_
         refine z0a (z48 rfl rfl) ?_
         refine z0g _ rfl (fun h83 => ?_) (fun h83 => ?_)
         ·replace H:=ift h83 H
          refine z0c ?_
          refine z0b hN rfl ?_
          refine qe rfl ?_
          refine z0m ?_
          replace H:=retl H hq48
          cases H
          exact ⟨trivial,.inl rfl,trivial⟩
         ·replace H:=iff_ h83 H
          refine z0l ?_
          refine z0c ?_
          refine z0b hN rfl ?_
          refine qe rfl ?_
          refine z1u ?_
          exact ⟨95,H,⟨rfl,rfl,rfl,rfl,trivial⟩,trivial⟩
        ·replace H:=iff_ h82 H
         refine z0l ?_
         refine z0c ?_
         refine z0c ?_
         refine z0b hN rfl ?_
         refine qd rfl ?_
         refine z0a (z2z rfl rfl) ?_
         refine z0g _ rfl (fun h84 => ?_) (fun h84 => ?_)
         ·replace H:=ift h84 H
          refine z0c ?_
          refine z0b hN rfl ?_
          refine qe rfl ?_
          refine z0m ?_
          replace H:=retl H hq48
          cases H
          exact ⟨trivial,.inl rfl,trivial⟩
         ·replace H:=iff_ h84 H
          refine z0l ?_
          refine z0b hN rfl ?_
          refine qe rfl ?_
          exact ⟨33,H,⟨rfl,rfl,rfl,rfl,trivial⟩,trivial⟩
     ·rintro v85 H
      replace H:z3b v47 v85=some q48:=H
      unfold z3b at H
      refine z0b hN rfl ?_
      refine qd rfl ?_
      refine z0a (z1c _ rfl rfl (.inl ⟨rfl,rfl⟩)) ?_
      refine qe rfl ?_
      exact ⟨_,z84 H,⟨rfl,rfl,rfl,rfl,trivial⟩,trivial⟩
    ·replace H:=iff_ h49 H
     refine z1u ?_
     replace H:=outl H hq48
     exact ⟨v46,H,⟨rfl,trivial⟩,trivial⟩
   ·rintro v86 H
    replace H:z6n v86=some r:=H
    unfold z6n at H
    refine z0c ?_
    refine z0b hN rfl ?_
    refine qd rfl ?_
    refine z0a (z48 rfl rfl) ?_
    refine qe rfl ?_
    refine z0m ?_
    cases H
    exact ⟨trivial,.inl rfl,trivial⟩
theorem y51 (v1:Bs) (v2:Int) (v3:Int) (r:(Int×Int)) (H:y0g v1 v2 v3=some r):Fn Tryz.prog 242 [vstr v1,vint v2,vint v3] (z1r [vval (.int .u64 r.1),verr r.2]):=by
 refine ⟨by kernel_rfl,z1e (us:=[vval (.int .u64 r.1),verr r.2]) Tryz.func242 rfl rfl rfl rfl fun X hN => ?_⟩
 unfold y0g at H
 refine z0c ?_
 refine z0b hN rfl ?_
 refine qe rfl ?_
 refine qe rfl ?_
 refine z0c ?_
 refine z0c ?_
 refine z0b hN rfl ?_
 refine qd rfl ?_
 refine z0a (z6c rfl rfl) ?_
 refine z0g _ rfl (fun h4 => ?_) (fun h4 => ?_)
 ·replace H:=ift h4 H
  refine z0c ?_
  refine z0b hN rfl ?_
  refine z0a (z1a (u':=verr 2) (y1j (show Tryz.prog.underlying 215=some (.int .i64) from by kernel_rfl) rfl) rfl) ?_
  refine qe rfl ?_
  refine qe rfl ?_
  refine z0m ?_
  cases H
  exact ⟨trivial,.inl rfl,.inl rfl,trivial⟩
 ·replace H:=iff_ h4 H
  refine z0l ?_
  refine z0c ?_
  refine z0b hN rfl ?_
  refine qd rfl ?_
  refine z0a (z2z rfl rfl) ?_
  refine qe rfl ?_
  refine z0c ?_
  refine z0b hN rfl ?_
  refine qd rfl ?_
  refine qe rfl ?_
  refine z03 (ι:=Bs×Int) (fun i=>[(0,.dat (vstr i.1)),(1,.dat (vint i.2)),(2,.dat (vint v3)),(8,.dat (z05 (decide (v2=0)))),(9,.dat (vstr v1))]) (fun i=>[]) (fun i=>z19 v1 v2 v3 i.1 i.2=some r) (fun i=>rfl) ?_ ?_
  ·skip
   refine z0v ?_
   refine z0c ?_
   refine z0b hN rfl ?_
   refine qd rfl ?_
   refine z0a (y0f rfl rfl) ?_
   refine qd rfl ?_
   refine z57 rfl rfl (fun hc=>z0h (.dat _) rfl) ?_
   refine z57 rfl rfl (fun hc=>y0f (cnd (c:=(decide (2≤v2))) hc) rfl) ?_
   refine z0a (z2c rfl (fun hb=>(cnd (c:=(decide (2≤v2))) hb)) rfl) ?_
   refine qe rfl ?_
   refine z0g _ rfl (fun h5 => ?_) (fun h5 => ?_)
   ·replace H:=ift h5 H
    refine z0l ?_
    exact ⟨(v1,v2),H,⟨rfl,rfl,rfl,rfl,rfl,trivial⟩,trivial⟩
   ·replace H:=iff_ h5 H
    refine z0c ?_
    refine z0b hN rfl ?_
    refine qd rfl ?_
    refine z0a (z2z rfl rfl) ?_
    refine qe rfl ?_
    refine z0g _ rfl (fun h6 => ?_) (fun h6 => ?_)
    ·replace H:=ift h6 H
     refine z0c ?_
     refine z0b hN rfl ?_
     refine qe rfl ?_
     refine z0c ?_
     refine z0b hN rfl ?_
     refine qd rfl ?_
     obtain ⟨x7,h8,H⟩:=bnd H
     refine z0a (y00 tyU9 rfl rfl h8) ?_
     refine z0a (z2z rfl rfl) ?_
     refine z0g _ rfl (fun h9 => ?_) (fun h9 => ?_)
     ·replace H:=ift h9 H
      refine z0v ?_
      refine z03 (ι:=Bool) (fun i=>[(0,.dat (vstr v1)),(2,.dat (vint v3)),(8,.dat (z05 (decide (v2=0)))),(9,.dat (vstr v1)),(40,.dat (z05 i))]) (fun i=>[]) (fun i=>z5v v1 v2 v3 i=some r) (fun i=>rfl) ?_ ?_
      ·skip
       refine z0b hN rfl ?_
       refine qd rfl ?_
       refine z0a (z1m tyU9 rfl) ?_
       refine z0a (z87 rfl rfl) ?_
       refine qd rfl ?_
       refine z09 (j:=3) rfl rfl (fun h10 => ?_) (fun h10 => ?_) rfl
       ·have h11:=un1 h10
        replace H:=ift h11 H
        refine z0p rfl rfl h10 (z0h (.dat _) rfl) ?_
        obtain ⟨x12,h13,H⟩:=bnd H
        refine z0p rfl rfl h10 (y00 tyU9 rfl rfl h13) ?_
        obtain ⟨r14,h15,H⟩:=bnd H
        refine z0p rfl rfl h10 (z0q (z1q (x12.toNat:Int) r14 h15) ⟨.inl rfl,trivial⟩) ?_
        refine z0p rfl rfl h10 (z2z rfl rfl) ?_
        refine z0a (z00 rfl (bTT h11) rfl) ?_
        refine qe rfl ?_
        exact ⟨decide (r14=98),H,⟨rfl,rfl,rfl,rfl,rfl,trivial⟩,trivial⟩
       ·have h16:=un2 h10
        replace H:=iff_ h16 H
        refine z0f rfl rfl h10 ?_
        refine z0f rfl rfl h10 ?_
        refine z0f rfl rfl h10 ?_
        refine z0f rfl rfl h10 ?_
        refine z0a (z0z rfl (bFF h16) rfl) ?_
        refine qe rfl ?_
        exact ⟨false,H,⟨rfl,rfl,rfl,rfl,rfl,trivial⟩,trivial⟩
      ·rintro v17 H
       replace H:z5v v1 v2 v3 v17=some r:=H
       unfold z5v at H
       refine z0g _ rfl (fun h18 => ?_) (fun h18 => ?_)
       ·replace H:=ift h18 H
        refine z0c ?_
        refine z0b hN rfl ?_
        refine qe rfl ?_
        refine z0b hN rfl ?_
        refine qd rfl ?_
        obtain ⟨l19,h20,H⟩:=bnd H
        refine z0a (y14 tyU9 rfl rfl rfl h20) ?_
        refine qe rfl ?_
        exact ⟨(l19,2),H,⟨rfl,rfl,rfl,rfl,rfl,trivial⟩,trivial⟩
       ·replace H:=iff_ h18 H
        refine z03 (ι:=Bool) (fun i=>[(0,.dat (vstr v1)),(2,.dat (vint v3)),(8,.dat (z05 (decide (v2=0)))),(9,.dat (vstr v1)),(52,.dat (z05 i))]) (fun i=>[]) (fun i=>z5u v1 v2 v3 i=some r) (fun i=>rfl) ?_ ?_
        ·skip
         refine z0b hN rfl ?_
         refine qd rfl ?_
         refine z0a (z1m tyU9 rfl) ?_
         refine z0a (z87 rfl rfl) ?_
         refine qd rfl ?_
         refine z09 (j:=3) rfl rfl (fun h21 => ?_) (fun h21 => ?_) rfl
         ·have h22:=un1 h21
          replace H:=ift h22 H
          refine z0p rfl rfl h21 (z0h (.dat _) rfl) ?_
          obtain ⟨x23,h24,H⟩:=bnd H
          refine z0p rfl rfl h21 (y00 tyU9 rfl rfl h24) ?_
          obtain ⟨r25,h26,H⟩:=bnd H
          refine z0p rfl rfl h21 (z0q (z1q (x23.toNat:Int) r25 h26) ⟨.inl rfl,trivial⟩) ?_
          refine z0p rfl rfl h21 (z2z rfl rfl) ?_
          refine z0a (z00 rfl (bTT h22) rfl) ?_
          refine qe rfl ?_
          exact ⟨decide (r25=111),H,⟨rfl,rfl,rfl,rfl,rfl,trivial⟩,trivial⟩
         ·have h27:=un2 h21
          replace H:=iff_ h27 H
          refine z0f rfl rfl h21 ?_
          refine z0f rfl rfl h21 ?_
          refine z0f rfl rfl h21 ?_
          refine z0f rfl rfl h21 ?_
          refine z0a (z0z rfl (bFF h27) rfl) ?_
          refine qe rfl ?_
          exact ⟨false,H,⟨rfl,rfl,rfl,rfl,rfl,trivial⟩,trivial⟩
        ·rintro v28 H
         replace H:z5u v1 v2 v3 v28=some r:=H
         unfold z5u at H
         refine z0g _ rfl (fun h29 => ?_) (fun h29 => ?_)
         ·replace H:=ift h29 H
          refine z0c ?_
          refine z0b hN rfl ?_
          refine qe rfl ?_
          refine z0b hN rfl ?_
          refine qd rfl ?_
          obtain ⟨l30,h31,H⟩:=bnd H
          refine z0a (y14 tyU9 rfl rfl rfl h31) ?_
          refine qe rfl ?_
          exact ⟨(l30,8),H,⟨rfl,rfl,rfl,rfl,rfl,trivial⟩,trivial⟩
         ·replace H:=iff_ h29 H
          refine z03 (ι:=Bool) (fun i=>[(0,.dat (vstr v1)),(2,.dat (vint v3)),(8,.dat (z05 (decide (v2=0)))),(9,.dat (vstr v1)),(64,.dat (z05 i))]) (fun i=>[]) (fun i=>z5t v1 v2 v3 i=some r) (fun i=>rfl) ?_ ?_
          ·skip
           refine z0b hN rfl ?_
           refine qd rfl ?_
           refine z0a (z1m tyU9 rfl) ?_
           refine z0a (z87 rfl rfl) ?_
           refine qd rfl ?_
           refine z09 (j:=3) rfl rfl (fun h32 => ?_) (fun h32 => ?_) rfl
           ·have h33:=un1 h32
            replace H:=ift h33 H
            refine z0p rfl rfl h32 (z0h (.dat _) rfl) ?_
            obtain ⟨x34,h35,H⟩:=bnd H
            refine z0p rfl rfl h32 (y00 tyU9 rfl rfl h35) ?_
            obtain ⟨r36,h37,H⟩:=bnd H
            refine z0p rfl rfl h32 (z0q (z1q (x34.toNat:Int) r36 h37) ⟨.inl rfl,trivial⟩) ?_
            refine z0p rfl rfl h32 (z2z rfl rfl) ?_
            refine z0a (z00 rfl (bTT h33) rfl) ?_
            refine qe rfl ?_
            exact ⟨decide (r36=120),H,⟨rfl,rfl,rfl,rfl,rfl,trivial⟩,trivial⟩
           ·have h38:=un2 h32
            replace H:=iff_ h38 H
            refine z0f rfl rfl h32 ?_
            refine z0f rfl rfl h32 ?_
            refine z0f rfl rfl h32 ?_
            refine z0f rfl rfl h32 ?_
            refine z0a (z0z rfl (bFF h38) rfl) ?_
            refine qe rfl ?_
            exact ⟨false,H,⟨rfl,rfl,rfl,rfl,rfl,trivial⟩,trivial⟩
          ·rintro v39 H
           replace H:z5t v1 v2 v3 v39=some r:=H
           unfold z5t at H
           refine z0g _ rfl (fun h40 => ?_) (fun h40 => ?_)
           ·replace H:=ift h40 H
            refine z0c ?_
            refine z0b hN rfl ?_
            refine qe rfl ?_
            refine z0b hN rfl ?_
            refine qd rfl ?_
            obtain ⟨l41,h42,H⟩:=bnd H
            refine z0a (y14 tyU9 rfl rfl rfl h42) ?_
            refine qe rfl ?_
            exact ⟨(l41,16),H,⟨rfl,rfl,rfl,rfl,rfl,trivial⟩,trivial⟩
           ·replace H:=iff_ h40 H
            refine z0c ?_
            refine z0b hN rfl ?_
            refine qe rfl ?_
            refine z0b hN rfl ?_
            refine qd rfl ?_
            obtain ⟨l43,h44,H⟩:=bnd H
            refine z0a (y14 tyU9 rfl rfl rfl h44) ?_
            refine qe rfl ?_
            exact ⟨(l43,8),H,⟨rfl,rfl,rfl,rfl,rfl,trivial⟩,trivial⟩
     ·replace H:=iff_ h9 H
      refine z0l ?_
      exact ⟨(v1,10),H,⟨rfl,rfl,rfl,rfl,rfl,trivial⟩,trivial⟩
    ·replace H:=iff_ h6 H
     refine z0c ?_
     refine z0b hN rfl ?_
     refine z0a (z1a (u':=verr 3) (y1j (show Tryz.prog.underlying 215=some (.int .i64) from by kernel_rfl) rfl) rfl) ?_
     refine qe rfl ?_
     refine qe rfl ?_
     refine z0m ?_
     cases H
     exact ⟨trivial,.inl rfl,.inl rfl,trivial⟩
  ·rintro ⟨v45,v46⟩ H
   replace H:z19 v1 v2 v3 v45 v46=some r:=H
   unfold z19 at H
   refine z03 (ι:=Int) (fun i=>[(0,.dat (vstr v45)),(1,.dat (vint v46)),(2,.dat (vint i)),(8,.dat (z05 (decide (v2=0)))),(9,.dat (vstr v1))]) (fun i=>[]) (fun i=>z5s v1 v2 v45 v46 i=some r) (fun i=>rfl) ?_ ?_
   ·skip
    refine z0c ?_
    refine z0b hN rfl ?_
    refine qd rfl ?_
    refine z0a (z2z rfl rfl) ?_
    refine z0g _ rfl (fun h47 => ?_) (fun h47 => ?_)
    ·replace H:=ift h47 H
     refine z0b hN rfl ?_
     refine qe rfl ?_
     exact ⟨64,H,⟨rfl,rfl,rfl,rfl,rfl,trivial⟩,trivial⟩
    ·replace H:=iff_ h47 H
     refine z0c ?_
     refine z0b hN rfl ?_
     refine qd rfl ?_
     refine z0a (z04 rfl rfl) ?_
     refine qd rfl ?_
     refine z2b rfl rfl (fun hc=>z0h (.dat _) rfl) ?_
     refine z2b rfl rfl (fun hc=>z2m (cnd (c:=(!(decide (v3 < 0)))) hc) rfl) ?_
     refine z0a (z2h rfl rfl (fun hb=>(cnd (c:=(!(decide (v3 < 0)))) (notI hb)))) ?_
     refine z0g _ rfl (fun h48 => ?_) (fun h48 => ?_)
     ·replace H:=ift h48 H
      refine z0c ?_
      refine z0b hN rfl ?_
      refine z0a (z1a (u':=verr 4) (y1j (show Tryz.prog.underlying 215=some (.int .i64) from by kernel_rfl) rfl) rfl) ?_
      refine qe rfl ?_
      refine qe rfl ?_
      refine z0m ?_
      cases H
      exact ⟨trivial,.inl rfl,.inl rfl,trivial⟩
     ·replace H:=iff_ h48 H
      refine z0l ?_
      exact ⟨v3,H,⟨rfl,rfl,rfl,rfl,rfl,trivial⟩,trivial⟩
   ·rintro v49 H
    replace H:z5s v1 v2 v45 v46 v49=some r:=H
    unfold z5s at H
    refine z0c ?_
    refine z0b hN rfl ?_
    refine qe rfl ?_
    refine z03 (ι:=Int) (fun i=>[(0,.dat (vstr v45)),(1,.dat (vint v46)),(2,.dat (vint v49)),(8,.dat (z05 (decide (v2=0)))),(9,.dat (vstr v1)),(10,.dat (vval (.int .u64 i)))]) (fun i=>[]) (fun i=>z33 v1 v2 v45 v46 v49 i=some r) (fun i=>rfl) ?_ ?_
    ·skip
     refine z0c ?_
     refine z0b hN rfl ?_
     refine qd rfl ?_
     refine z0v ?_
     refine z0c ?_
     refine z0b hN rfl ?_
     refine z0a (z2z rfl rfl) ?_
     refine qe rfl ?_
     refine z0g _ rfl (fun h50 => ?_) (fun h50 => ?_)
     ·replace H:=ift h50 H
      refine z0b hN rfl ?_
      refine qe rfl ?_
      exact ⟨1844674407370955162,H,⟨rfl,rfl,rfl,rfl,rfl,rfl,trivial⟩,trivial⟩
     ·replace H:=iff_ h50 H
      refine z0c ?_
      refine z0b hN rfl ?_
      refine z0a (z2z rfl rfl) ?_
      refine qe rfl ?_
      refine z0g _ rfl (fun h51 => ?_) (fun h51 => ?_)
      ·replace H:=ift h51 H
       refine z0b hN rfl ?_
       refine qe rfl ?_
       exact ⟨1152921504606846976,H,⟨rfl,rfl,rfl,rfl,rfl,rfl,trivial⟩,trivial⟩
      ·replace H:=iff_ h51 H
       refine z0b hN rfl ?_
       refine qd rfl ?_
       refine z0a (z7f tyU3 y7x rfl) ?_
       obtain ⟨h52,H⟩:=gif H
       refine z0a (x8l rfl rfl h52) ?_
       refine z0a (z1c _ rfl rfl (.inl ⟨rfl,rfl⟩)) ?_
       refine qe rfl ?_
       exact ⟨IntKind.wrap .u64 ((IntKind.wrap .u64 (Int.tdiv 18446744073709551615 (IntKind.wrap .u64 v46)))+1),H,⟨rfl,rfl,rfl,rfl,rfl,rfl,trivial⟩,trivial⟩
    ·rintro v53 H
     replace H:z33 v1 v2 v45 v46 v49 v53=some r:=H
     unfold z33 at H
     refine z0c ?_
     refine z0b hN rfl ?_
     refine qd rfl ?_
     refine z0a (z7f tyU3 x5x rfl) ?_
     obtain ⟨h54,H⟩:=gif H
     refine z0a (z1a (x4x rfl rfl h54) rfl) ?_
     refine z0a (z1c _ rfl rfl (.inr (.inl ⟨rfl,rfl⟩))) ?_
     refine qe rfl ?_
     refine z0c ?_
     refine z0b hN rfl ?_
     refine qe rfl ?_
     refine z0c ?_
     refine z0b hN rfl ?_
     refine qe rfl ?_
     refine z0c ?_
     refine z0c ?_
     refine z0b hN rfl ?_
     refine qd rfl ?_
     refine z0a (x2b (C:=z5m) tyU9 y8x tyU5 (fun _=>rfl) rfl) ?_
     refine z0a (z6r y8x rfl) ?_
     refine qd rfl ?_
     refine z0v ?_
     obtain ⟨h59,H⟩:=gif H
     refine z3u (fun (k57:Nat) (s:Bool×Int)=>[(1,.dat (vint v46)),(8,.dat (z05 (decide (v2=0)))),(9,.dat (vstr v1)),(10,.dat (vval (.int .u64 v53))),(11,.dat (vval (.int .u64 (IntKind.wrap .u64 ((shl_ .u64 1 (IntKind.wrap .u64 v49)) - 1))))),(12,.dat (z05 s.1)),(13,.dat (vval (.int .u64 s.2))),(99,.dat (vlst (List.map z5m (y2o v45)))),(100,.dat (vint ((y2o v45).length:Int))),(101,.dat (vint (k57:Int)))]) (fun (k57:Nat) (s:Bool×Int)=>[]) (false,0) H ⟨rfl,rfl,rfl,rfl,rfl,rfl,rfl,rfl,rfl,rfl,trivial⟩ trivial (fun _ _=>rfl) ?_ ?_
     ·rintro ⟨v55,v56⟩ H
      replace H:y0a v1 v55 v56=some r:=H
      unfold y0a at H
      refine z0c ?_
      refine z0b hN rfl ?_
      refine z0a (z04 rfl rfl) ?_
      refine z0c ?_
      refine z0g _ rfl (fun h=>(lt_t h).elim) (fun h => ?_)
      refine z1u ?_
      refine z0c ?_
      refine z03 (ι:=Bool) (fun i=>[(13,.dat (vval (.int .u64 v56))),(169,.dat (z05 i))]) (fun i=>[]) (fun i=>z5r v56 i=some r) (fun i=>rfl) ?_ ?_
      ·skip
       refine z0b hN rfl ?_
       refine qd rfl ?_
       refine qd rfl ?_
       refine z09 (j:=1) rfl rfl (fun h61 => ?_) (fun h61 => ?_) rfl
       ·have h62:=un1 h61
        replace H:=ift h62 H
        refine z0p rfl rfl h61 (z0h (.dat _) rfl) ?_
        obtain ⟨r63,h64,H⟩:=bnd H
        refine z0p rfl rfl h61 (z0q (y46 v1 r63 h64) ⟨.inl rfl,trivial⟩) ?_
        refine z0p rfl rfl h61 (z2j rfl) ?_
        refine z0a (z00 rfl (bTT h62) rfl) ?_
        exact ⟨!r63,H,⟨rfl,rfl,trivial⟩,trivial⟩
       ·have h65:=un2 h61
        replace H:=iff_ h65 H
        refine z0f rfl rfl h61 ?_
        refine z0f rfl rfl h61 ?_
        refine z0f rfl rfl h61 ?_
        refine z0a (z0z rfl (bFF h65) rfl) ?_
        exact ⟨false,H,⟨rfl,rfl,trivial⟩,trivial⟩
      ·rintro v66 H
       replace H:z5r v56 v66=some r:=H
       unfold z5r at H
       refine z0g _ rfl (fun h67 => ?_) (fun h67 => ?_)
       ·replace H:=ift h67 H
        refine z0c ?_
        refine z0b hN rfl ?_
        refine z0a (z1a (u':=verr 2) (y1j (show Tryz.prog.underlying 215=some (.int .i64) from by kernel_rfl) rfl) rfl) ?_
        refine qe rfl ?_
        refine qe rfl ?_
        refine z0m ?_
        cases H
        exact ⟨trivial,.inl rfl,.inl rfl,trivial⟩
       ·replace H:=iff_ h67 H
        refine z0l ?_
        refine z0c ?_
        refine z0b hN rfl ?_
        refine qd rfl ?_
        refine qe rfl ?_
        refine qe rfl ?_
        refine z0m ?_
        cases H
        exact ⟨trivial,.inl rfl,.inl rfl,trivial⟩
     ·rintro k57 x60 ⟨v55,v56⟩ q58 h68 h69 H hq58
      replace H:z99 v2 v46 v49 v53 k57 x60 v55 v56=some q58:=H
      unfold z99 at H
      refine z0c ?_
      refine z0b hN rfl ?_
      refine z0a (z04 rfl rfl) ?_
      refine z0c ?_
      refine z0g _ rfl (fun h => ?_) (fun h=>(lt_f h68 h).elim)
      refine z0l ?_
      refine z03 (ι:=Bool×Int) (fun i=>[(1,.dat (vint v46)),(8,.dat (z05 (decide (v2=0)))),(9,.dat (vstr v1)),(10,.dat (vval (.int .u64 v53))),(11,.dat (vval (.int .u64 (IntKind.wrap .u64 ((shl_ .u64 1 (IntKind.wrap .u64 v49)) - 1))))),(12,.dat (z05 i.1)),(13,.dat (vval (.int .u64 i.2))),(99,.dat (vlst (List.map z5m (y2o v45)))),(100,.dat (vint ((y2o v45).length:Int))),(101,.dat (vint (k57:Int)))]) (fun i=>[]) (fun i=>z5q i.1 i.2=some q58) (fun i=>rfl) ?_ ?_
      ·skip
       refine z0v ?_
       refine z0c ?_
       refine z0b hN rfl ?_
       refine z0a (y0r w54 (fun _=>rfl) rfl rfl h69) ?_
       refine z0a (z0x tyS5 rfl (z2l h69) rfl) ?_
       refine qe rfl ?_
       refine z0c ?_
       refine z0b hN rfl ?_
       refine qe rfl ?_
       refine z03 (ι:=Int) (fun i=>[(1,.dat (vint v46)),(8,.dat (z05 (decide (v2=0)))),(9,.dat (vstr v1)),(10,.dat (vval (.int .u64 v53))),(11,.dat (vval (.int .u64 (IntKind.wrap .u64 ((shl_ .u64 1 (IntKind.wrap .u64 v49)) - 1))))),(12,.dat (z05 v55)),(13,.dat (vval (.int .u64 v56))),(16,.dat (vval (.int .u8 i))),(99,.dat (vlst (List.map z5m (y2o v45)))),(100,.dat (vint ((y2o v45).length:Int))),(101,.dat (vint (k57:Int)))]) (fun i=>[]) (fun i=>z40 v46 v49 v53 v55 v56 i=some q58) (fun i=>rfl) ?_ ?_
       ·skip
        refine z0v ?_
        refine z0c ?_
        refine z0b hN rfl ?_
        refine qd rfl ?_
        refine z0a (z2z rfl rfl) ?_
        refine qd rfl ?_
        refine z57 rfl rfl (fun hc=>z0h (.dat _) rfl) ?_
        refine z0a (z2c rfl (fun hb=>(cnd (c:=(decide (x60=95))) hb)) rfl) ?_
        refine qe rfl ?_
        refine z0g _ rfl (fun h70 => ?_) (fun h70 => ?_)
        ·replace H:=ift h70 H
         refine z0c ?_
         refine z0b hN rfl ?_
         refine qe rfl ?_
         refine z1u ?_
         exact ⟨(true,v56),H,⟨rfl,rfl,rfl,rfl,rfl,rfl,rfl,rfl,rfl,rfl,trivial⟩,trivial⟩
        ·replace H:=iff_ h70 H
         refine z0c ?_
         refine z0b hN rfl ?_
         refine qd rfl ?_
         refine z0a (y0f rfl rfl) ?_
         refine qd rfl ?_
         refine z57 rfl rfl (fun hc=>z0h (.dat _) rfl) ?_
         refine z57 rfl rfl (fun hc=>y0f (cnd (c:=(decide (48≤x60))) hc) rfl) ?_
         refine z0a (z2c rfl (fun hb=>(cnd (c:=(decide (48≤x60))) hb)) rfl) ?_
         refine qe rfl ?_
         refine z0g _ rfl (fun h71 => ?_) (fun h71 => ?_)
         ·replace H:=ift h71 H
          refine z0b hN rfl ?_
          refine qd rfl ?_
          refine z0a (z1c _ rfl rfl (.inr (.inl ⟨rfl,rfl⟩))) ?_
          refine qe rfl ?_
          exact ⟨IntKind.wrap .u8 (x60 - 48),H,⟨rfl,rfl,rfl,rfl,rfl,rfl,rfl,rfl,rfl,rfl,rfl,trivial⟩,trivial⟩
         ·replace H:=iff_ h71 H
          refine z03 (ι:=Bool) (fun i=>[(1,.dat (vint v46)),(8,.dat (z05 (decide (v2=0)))),(9,.dat (vstr v1)),(10,.dat (vval (.int .u64 v53))),(11,.dat (vval (.int .u64 (IntKind.wrap .u64 ((shl_ .u64 1 (IntKind.wrap .u64 v49)) - 1))))),(12,.dat (z05 v55)),(13,.dat (vval (.int .u64 v56))),(15,.dat (vval (.int .u8 x60))),(99,.dat (vlst (List.map z5m (y2o v45)))),(100,.dat (vint ((y2o v45).length:Int))),(101,.dat (vint (k57:Int))),(121,.dat (z05 i))]) (fun i=>[]) (fun i=>z4z v46 v49 v53 v55 v56 x60 i=some q58) (fun i=>rfl) ?_ ?_
          ·skip
           refine z0b hN rfl ?_
           refine qd rfl ?_
           obtain ⟨r72,h73,H⟩:=bnd H
           refine z0a (z0q (z1q x60 r72 h73) ⟨.inl rfl,trivial⟩) ?_
           refine z0a (y0f rfl rfl) ?_
           refine qd rfl ?_
           refine z09 (j:=3) rfl rfl (fun h74 => ?_) (fun h74 => ?_) rfl
           ·have h75:=un1 h74
            replace H:=ift h75 H
            refine z0p rfl rfl h74 (z0h (.dat _) rfl) ?_
            obtain ⟨r76,h77,H⟩:=bnd H
            refine z0p rfl rfl h74 (z0q (z1q x60 r76 h77) ⟨.inl rfl,trivial⟩) ?_
            refine z0p rfl rfl h74 (y0f rfl rfl) ?_
            refine z0a (z00 rfl (bTT h75) rfl) ?_
            refine qe rfl ?_
            exact ⟨decide (r76≤122),H,⟨rfl,rfl,rfl,rfl,rfl,rfl,rfl,rfl,rfl,rfl,rfl,rfl,trivial⟩,trivial⟩
           ·have h78:=un2 h74
            replace H:=iff_ h78 H
            refine z0f rfl rfl h74 ?_
            refine z0f rfl rfl h74 ?_
            refine z0f rfl rfl h74 ?_
            refine z0a (z0z rfl (bFF h78) rfl) ?_
            refine qe rfl ?_
            exact ⟨false,H,⟨rfl,rfl,rfl,rfl,rfl,rfl,rfl,rfl,rfl,rfl,rfl,rfl,trivial⟩,trivial⟩
          ·rintro v79 H
           replace H:z4z v46 v49 v53 v55 v56 x60 v79=some q58:=H
           unfold z4z at H
           refine z0g _ rfl (fun h80 => ?_) (fun h80 => ?_)
           ·replace H:=ift h80 H
            refine z0b hN rfl ?_
            refine qd rfl ?_
            obtain ⟨r81,h82,H⟩:=bnd H
            refine z0a (z0q (z1q x60 r81 h82) ⟨.inl rfl,trivial⟩) ?_
            refine z0a (z1c _ rfl rfl (.inr (.inl ⟨rfl,rfl⟩))) ?_
            refine z0a (z1c _ rfl rfl (.inl ⟨rfl,rfl⟩)) ?_
            refine qe rfl ?_
            exact ⟨IntKind.wrap .u8 ((IntKind.wrap .u8 (r81 - 97))+10),H,⟨rfl,rfl,rfl,rfl,rfl,rfl,rfl,rfl,rfl,rfl,rfl,trivial⟩,trivial⟩
           ·replace H:=iff_ h80 H
            refine z0c ?_
            refine z0b hN rfl ?_
            refine z0a (z1a (u':=verr 2) (y1j (show Tryz.prog.underlying 215=some (.int .i64) from by kernel_rfl) rfl) rfl) ?_
            refine qe rfl ?_
            refine qe rfl ?_
            refine z0m ?_
            replace H:=retl H hq58
            cases H
            exact ⟨trivial,.inl rfl,.inl rfl,trivial⟩
       ·rintro v83 H
        replace H:z40 v46 v49 v53 v55 v56 v83=some q58:=H
        unfold z40 at H
        refine z0c ?_
        refine z0c ?_
        refine z0b hN rfl ?_
        refine qd rfl ?_
        refine qd rfl ?_
        refine z0a (z7f tyU3 tyU5 rfl) ?_
        refine z0a (z87 rfl rfl) ?_
        refine z0g _ rfl (fun h84 => ?_) (fun h84 => ?_)
        ·replace H:=ift h84 H
         refine z0c ?_
         refine z0b hN rfl ?_
         refine z0a (z1a (u':=verr 2) (y1j (show Tryz.prog.underlying 215=some (.int .i64) from by kernel_rfl) rfl) rfl) ?_
         refine qe rfl ?_
         refine qe rfl ?_
         refine z0m ?_
         replace H:=retl H hq58
         cases H
         exact ⟨trivial,.inl rfl,.inl rfl,trivial⟩
        ·replace H:=iff_ h84 H
         refine z0l ?_
         refine z0c ?_
         refine z0c ?_
         refine z0b hN rfl ?_
         refine qd rfl ?_
         refine qd rfl ?_
         refine z0a (z87 rfl rfl) ?_
         refine z0g _ rfl (fun h85 => ?_) (fun h85 => ?_)
         ·replace H:=ift h85 H
          refine z0c ?_
          refine z0b hN rfl ?_
          refine qd rfl ?_
          refine z0a (z1a (u':=verr 1) (y1j (show Tryz.prog.underlying 215=some (.int .i64) from by kernel_rfl) rfl) rfl) ?_
          refine qe rfl ?_
          refine qe rfl ?_
          refine z0m ?_
          replace H:=retl H hq58
          cases H
          exact ⟨trivial,.inl rfl,.inl rfl,trivial⟩
         ·replace H:=iff_ h85 H
          refine z0l ?_
          refine z0c ?_
          refine z0b hN rfl ?_
          refine qd rfl ?_
          refine qd rfl ?_
          refine z0a (z7f tyU3 y7x rfl) ?_
          refine z0a (z1c _ rfl rfl (.inr (.inr ⟨rfl,rfl⟩))) ?_
          refine qe rfl ?_
          refine z0c ?_
          refine z0b hN rfl ?_
          refine qd rfl ?_
          refine qd rfl ?_
          refine z0a (z7f tyU5 y7x rfl) ?_
          refine z0a (z1c _ rfl rfl (.inl ⟨rfl,rfl⟩)) ?_
          refine qe rfl ?_
          refine z0c ?_
          refine z0c ?_
          refine z0b hN rfl ?_
          refine qd rfl ?_
          refine qd rfl ?_
          refine z0a (z04 rfl rfl) ?_
          refine qd rfl ?_
          refine z2b rfl rfl (fun hc=>z0h (.dat _) rfl) ?_
          refine z2b rfl rfl (fun hc=>z0h (.dat _) rfl) ?_
          refine z2b rfl rfl (fun hc=>z2m (cnd (c:=(!(decide ((IntKind.wrap .u64 ((IntKind.wrap .u64 (v56 * (IntKind.wrap .u64 v46)))+(IntKind.wrap .u64 v83))) < (IntKind.wrap .u64 (v56 * (IntKind.wrap .u64 v46))))))) hc) (cnd (c:=(!(decide ((IntKind.wrap .u64 ((IntKind.wrap .u64 (v56 * (IntKind.wrap .u64 v46)))+(IntKind.wrap .u64 v83))) < (IntKind.wrap .u64 (v56 * (IntKind.wrap .u64 v46))))))) hc)) ?_
          refine z0a (z2h rfl rfl (fun hb=>(cnd (c:=(!(decide ((IntKind.wrap .u64 ((IntKind.wrap .u64 (v56 * (IntKind.wrap .u64 v46)))+(IntKind.wrap .u64 v83))) < (IntKind.wrap .u64 (v56 * (IntKind.wrap .u64 v46))))))) (notI hb)))) ?_
          refine z0g _ rfl (fun h86 => ?_) (fun h86 => ?_)
          ·replace H:=ift h86 H
           refine z0c ?_
           refine z0b hN rfl ?_
           refine qd rfl ?_
           refine z0a (z1a (u':=verr 1) (y1j (show Tryz.prog.underlying 215=some (.int .i64) from by kernel_rfl) rfl) rfl) ?_
           refine qe rfl ?_
           refine qe rfl ?_
           refine z0m ?_
           replace H:=retl H hq58
           cases H
           exact ⟨trivial,.inl rfl,.inl rfl,trivial⟩
          ·replace H:=iff_ h86 H
           refine z0l ?_
           refine z0b hN rfl ?_
           refine qd rfl ?_
           refine qe rfl ?_
           exact ⟨(v55,IntKind.wrap .u64 ((IntKind.wrap .u64 (v56 * (IntKind.wrap .u64 v46)))+(IntKind.wrap .u64 v83))),H,⟨rfl,rfl,rfl,rfl,rfl,rfl,rfl,rfl,rfl,rfl,trivial⟩,trivial⟩
      ·rintro ⟨v87,v88⟩ H
       replace H:z5q v87 v88=some q58:=H
       unfold z5q at H
       refine z0b hN rfl ?_
       refine z0a (z3r rfl rfl (by omega)) ?_
       refine qd rfl ?_
       exact ⟨_,z84 H,⟨rfl,rfl,rfl,rfl,rfl,rfl,rfl,rfl,rfl,rfl,trivial⟩,trivial⟩
theorem y3l (v1:Bs) (v2:Int) (v3:Int) (r:(Int×Int)) (H:z77 v1 v2 v3=some r):Fn Tryz.prog 168 [vstr v1,vint v2,vint v3] (z1r [vint r.1,verr r.2]):=by
 refine ⟨by kernel_rfl,z1e (us:=[vint r.1,verr r.2]) Tryz.func168 rfl rfl rfl rfl fun X hN => ?_⟩
 unfold z77 at H
 refine z0c ?_
 refine z0b hN rfl ?_
 refine qe rfl ?_
 refine qe rfl ?_
 refine z0c ?_
 refine z0c ?_
 refine z0b hN rfl ?_
 refine qd rfl ?_
 refine z0a (z6c rfl rfl) ?_
 refine z0g _ rfl (fun h4 => ?_) (fun h4 => ?_)
 ·replace H:=ift h4 H
  refine z0c ?_
  refine z0b hN rfl ?_
  refine z0a (z1a (u':=verr 2) (y1j (show Tryz.prog.underlying 215=some (.int .i64) from by kernel_rfl) rfl) rfl) ?_
  refine qe rfl ?_
  refine qe rfl ?_
  refine z0m ?_
  cases H
  exact ⟨trivial,.inl rfl,.inl rfl,trivial⟩
 ·replace H:=iff_ h4 H
  refine z0l ?_
  refine z0c ?_
  refine z0b hN rfl ?_
  refine qe rfl ?_
  refine z03 (ι:=Bs×Bool) (fun i=>[(0,.dat (vstr i.1)),(1,.dat (vint v2)),(2,.dat (vint v3)),(8,.dat (z05 i.2))]) (fun i=>[]) (fun i=>z4b v2 v3 i.1 i.2=some r) (fun i=>rfl) ?_ ?_
  ·skip
   refine z0c ?_
   refine z0b hN rfl ?_
   refine qd rfl ?_
   obtain ⟨x5,h6,H⟩:=bnd H
   refine z0a (y00 tyU9 rfl rfl h6) ?_
   refine z0v ?_
   refine z0c ?_
   refine z0b hN rfl ?_
   refine z0a (z2z rfl rfl) ?_
   refine qe rfl ?_
   refine z0g _ rfl (fun h7 => ?_) (fun h7 => ?_)
   ·replace H:=ift h7 H
    refine z0b hN rfl ?_
    refine qd rfl ?_
    obtain ⟨l8,h9,H⟩:=bnd H
    refine z0a (y14 tyU9 rfl rfl rfl h9) ?_
    refine qe rfl ?_
    exact ⟨(l8,false),H,⟨rfl,rfl,rfl,rfl,trivial⟩,trivial⟩
   ·replace H:=iff_ h7 H
    refine z0c ?_
    refine z0b hN rfl ?_
    refine z0a (z2z rfl rfl) ?_
    refine qe rfl ?_
    refine z0g _ rfl (fun h10 => ?_) (fun h10 => ?_)
    ·replace H:=ift h10 H
     refine z0c ?_
     refine z0b hN rfl ?_
     refine qd rfl ?_
     obtain ⟨l11,h12,H⟩:=bnd H
     refine z0a (y14 tyU9 rfl rfl rfl h12) ?_
     refine qe rfl ?_
     refine z0b hN rfl ?_
     refine qe rfl ?_
     exact ⟨(l11,true),H,⟨rfl,rfl,rfl,rfl,trivial⟩,trivial⟩
    ·replace H:=iff_ h10 H
     refine z0l ?_
     exact ⟨(v1,false),H,⟨rfl,rfl,rfl,rfl,trivial⟩,trivial⟩
  ·rintro ⟨v13,v14⟩ H
   replace H:z4b v2 v3 v13 v14=some r:=H
   unfold z4b at H
   refine z0c ?_
   refine z0b hN rfl ?_
   refine qe rfl ?_
   refine z0c ?_
   refine z0b hN rfl ?_
   refine qd rfl ?_
   refine qd rfl ?_
   refine qd rfl ?_
   obtain ⟨r15,h16,H⟩:=bnd H
   refine z0a (z0q (y51 v13 v2 v3 r15 h16) ⟨.inl rfl,.inl rfl,.inl rfl,trivial⟩) ?_
   refine qd rfl ?_
   refine z0a (z10 rfl rfl) ?_
   refine z0a (z10 rfl rfl) ?_
   refine qe rfl ?_
   refine qe rfl ?_
   refine z0c ?_
   refine z03 (ι:=Bool) (fun i=>[(2,.dat (vint v3)),(7,.dat (verr r15.2)),(8,.dat (z05 v14)),(9,.dat (vval (.int .u64 r15.1))),(38,.dat (z05 i))]) (fun i=>[]) (fun i=>z6i v3 v14 r15 i=some r) (fun i=>rfl) ?_ ?_
   ·skip
    refine z0b hN rfl ?_
    refine qd rfl ?_
    refine z0a (x0d (n:=r15.2) (show Tryz.prog.underlying 135=some (.interface (Tryz.prog.methodsAt 135)) from by kernel_rfl) rfl) ?_
    refine qd rfl ?_
    refine z09 (j:=2) rfl rfl (fun h17 => ?_) (fun h17 => ?_) rfl
    ·have h18:=un1 h17
     replace H:=ift h18 H
     refine z0p rfl rfl h17 (z0h (.dat _) rfl) ?_
     refine z0p rfl rfl h17 (z1a (u':=verr 1) (y1j (show Tryz.prog.underlying 215=some (.int .i64) from by kernel_rfl) rfl) rfl) ?_
     obtain ⟨h19,H⟩:=gif H
     refine z0p rfl rfl h17 (x7i (n:=r15.2) (m:=1) (show Tryz.prog.underlying 135=some (.interface (Tryz.prog.methodsAt 135)) from by kernel_rfl) (by kernel_rfl) (by kernel_rfl) rfl rfl h19 (by decide)) ?_
     refine z0a (z00 rfl (bTT h18) rfl) ?_
     exact ⟨decide (r15.2≠1),H,⟨rfl,rfl,rfl,rfl,rfl,trivial⟩,trivial⟩
    ·have h20:=un2 h17
     replace H:=iff_ h20 H
     refine z0f rfl rfl h17 ?_
     refine z0f rfl rfl h17 ?_
     refine z0f rfl rfl h17 ?_
     refine z0a (z0z rfl (bFF h20) rfl) ?_
     exact ⟨false,H,⟨rfl,rfl,rfl,rfl,rfl,trivial⟩,trivial⟩
   ·rintro v21 H
    replace H:z6i v3 v14 r15 v21=some r:=H
    unfold z6i at H
    refine z0g _ rfl (fun h22 => ?_) (fun h22 => ?_)
    ·replace H:=ift h22 H
     refine z0c ?_
     refine z0b hN rfl ?_
     refine qd rfl ?_
     refine qe rfl ?_
     refine qe rfl ?_
     refine z0m ?_
     cases H
     exact ⟨trivial,.inl rfl,.inl rfl,trivial⟩
    ·replace H:=iff_ h22 H
     refine z0l ?_
     refine z03 (ι:=Int) (fun i=>[(2,.dat (vint i)),(8,.dat (z05 v14)),(9,.dat (vval (.int .u64 r15.1)))]) (fun i=>[]) (fun i=>z6h v14 r15 i=some r) (fun i=>rfl) ?_ ?_
     ·skip
      refine z0c ?_
      refine z0b hN rfl ?_
      refine qd rfl ?_
      refine z0a (z2z rfl rfl) ?_
      refine z0g _ rfl (fun h23 => ?_) (fun h23 => ?_)
      ·replace H:=ift h23 H
       refine z0b hN rfl ?_
       refine qe rfl ?_
       exact ⟨64,H,⟨rfl,rfl,rfl,trivial⟩,trivial⟩
      ·replace H:=iff_ h23 H
       refine z0l ?_
       exact ⟨v3,H,⟨rfl,rfl,rfl,trivial⟩,trivial⟩
     ·rintro v24 H
      replace H:z6h v14 r15 v24=some r:=H
      unfold z6h at H
      refine z0c ?_
      refine z0b hN rfl ?_
      refine qd rfl ?_
      refine z0a (z1c _ rfl rfl (.inr (.inl ⟨rfl,rfl⟩))) ?_
      refine z0a (z7f tyU3 x5x rfl) ?_
      obtain ⟨h25,H⟩:=gif H
      refine z0a (z1a (x4x rfl rfl h25) rfl) ?_
      refine qe rfl ?_
      refine z0c ?_
      refine z0c ?_
      refine z0b hN rfl ?_
      refine qd rfl ?_
      refine z0a (z2j rfl) ?_
      refine qd rfl ?_
      refine z57 rfl rfl (fun hc=>z0h (.dat _) rfl) ?_
      refine z57 rfl rfl (fun hc=>z0h (.dat _) rfl) ?_
      refine z57 rfl rfl (fun hc=>z87 (cnd (c:=(!v14)) hc) (cnd (c:=(!v14)) hc)) ?_
      refine z0a (z2c rfl (fun hb=>(cnd (c:=(!v14)) hb)) rfl) ?_
      refine z0g _ rfl (fun h26 => ?_) (fun h26 => ?_)
      ·replace H:=ift h26 H
       refine z0c ?_
       refine z0b hN rfl ?_
       refine qd rfl ?_
       refine z0a (z1c _ rfl rfl (.inr (.inl ⟨rfl,rfl⟩))) ?_
       refine z0a (z7f y7x tyU2 rfl) ?_
       refine z0a (z1a (u':=verr 1) (y1j (show Tryz.prog.underlying 215=some (.int .i64) from by kernel_rfl) rfl) rfl) ?_
       refine qe rfl ?_
       refine qe rfl ?_
       refine z0m ?_
       cases H
       exact ⟨trivial,.inl rfl,.inl rfl,trivial⟩
      ·replace H:=iff_ h26 H
       refine z0l ?_
       refine z0c ?_
       refine z0c ?_
       refine z0b hN rfl ?_
       refine qd rfl ?_
       refine qd rfl ?_
       refine z57 rfl rfl (fun hc=>z0h (.dat _) rfl) ?_
       refine z57 rfl rfl (fun hc=>z0h (.dat _) rfl) ?_
       refine z57 rfl rfl (fun hc=>z2m (cnd (c:=v14) hc) (cnd (c:=v14) hc)) ?_
       refine z0a (z2c rfl (fun hb=>(cnd (c:=v14) hb)) rfl) ?_
       refine z0g _ rfl (fun h27 => ?_) (fun h27 => ?_)
       ·replace H:=ift h27 H
        refine z0c ?_
        refine z0b hN rfl ?_
        refine qd rfl ?_
        refine z0a (z7f y7x tyU2 rfl) ?_
        obtain ⟨h28,H⟩:=gif H
        refine z0a (x7e rfl h28) ?_
        refine z0a (z1a (u':=verr 1) (y1j (show Tryz.prog.underlying 215=some (.int .i64) from by kernel_rfl) rfl) rfl) ?_
        refine qe rfl ?_
        refine qe rfl ?_
        refine z0m ?_
        cases H
        exact ⟨trivial,.inl rfl,.inl rfl,trivial⟩
       ·replace H:=iff_ h27 H
        refine z0l ?_
        refine z0c ?_
        refine z0b hN rfl ?_
        refine qd rfl ?_
        refine z0a (z7f y7x tyU2 rfl) ?_
        refine qe rfl ?_
        refine z03 (ι:=Int) (fun i=>[(11,.dat (vint i))]) (fun i=>[]) (fun i=>z6g i=some r) (fun i=>rfl) ?_ ?_
        ·skip
         refine z0c ?_
         refine z0b hN rfl ?_
         refine qd rfl ?_
         refine z0g _ rfl (fun h29 => ?_) (fun h29 => ?_)
         ·replace H:=ift h29 H
          refine z0b hN rfl ?_
          refine qd rfl ?_
          obtain ⟨h30,H⟩:=gif H
          refine z0a (x7e rfl h30) ?_
          refine qe rfl ?_
          exact ⟨(-(IntKind.wrap .i64 r15.1)),H,⟨rfl,trivial⟩,trivial⟩
         ·replace H:=iff_ h29 H
          refine z0l ?_
          exact ⟨IntKind.wrap .i64 r15.1,H,⟨rfl,trivial⟩,trivial⟩
        ·rintro v31 H
         replace H:z6g v31=some r:=H
         unfold z6g at H
         refine z0c ?_
         refine z0b hN rfl ?_
         refine qd rfl ?_
         refine qe rfl ?_
         refine qe rfl ?_
         refine z0m ?_
         cases H
         exact ⟨trivial,.inl rfl,.inl rfl,trivial⟩
theorem y7a (fn s:Bs) (base bits e r:Int) (H:y44 fn s base bits e=some r):Fn Tryz.prog 169 [vstr fn,vstr s,vint base,vint bits,verr e] (z1r [verr r]):=by
 obtain ⟨⟨h1,h2,h3⟩,h4⟩:=gif H
 cases h4
 refine y2m (by kernel_rfl) fun M w vs hM h => ?_
 rcases h3 with rfl | rfl
 ·have hv:=y49 (us:=[.string ⟨fn.toArray⟩,.string ⟨s.toArray⟩,.int .i64 base,.int .i64 bits,.iface 215 (.int .i64 2)]) h
  subst hv
  obtain ⟨tp,p,hc⟩:=x3q hM
  refine (Tryz.strconv_toError_syntax ⟨fn.toArray⟩ ⟨s.toArray⟩ base bits (.iface tp p) w (by simp [ByteArray.size]; omega) hc (.inr ⟨tp,p,rfl⟩)).mono ?_
  rintro e w' ⟨N,rfl,_,_,hb⟩
  exact ⟨_,rfl,⟨_,_,rfl⟩,Kp.of_below hb⟩
 ·have hv:=y49 (us:=[.string ⟨fn.toArray⟩,.string ⟨s.toArray⟩,.int .i64 base,.int .i64 bits,.iface 215 (.int .i64 1)]) h
  subst hv
  obtain ⟨tp,p,hc⟩:=x5t hM
  refine (Tryz.strconv_toError_range ⟨fn.toArray⟩ ⟨s.toArray⟩ base bits (.iface tp p) w (by simp [ByteArray.size]; omega) hc (.inr ⟨tp,p,rfl⟩)).mono ?_
  rintro e w' ⟨N,rfl,_,_,hb⟩
  exact ⟨_,rfl,⟨_,_,rfl⟩,Kp.of_below hb⟩
theorem y6p (s1:Bs) (base2:Int) (bitSize3:Int) (r:(Int×Int)) (H:z60 s1 base2 bitSize3=some r):Fn Tryz.prog 114 [vstr s1,vint base2,vint bitSize3] (z1r [vint r.1,verr r.2]):=by
 refine ⟨by kernel_rfl,z1e (us:=[vint r.1,verr r.2]) Tryz.func114 rfl rfl rfl rfl fun X hN => ?_⟩
 unfold z60 at H
 refine z0c ?_
 refine z0b hN rfl ?_
 refine qe rfl ?_
 refine qe rfl ?_
 refine z0c ?_
 refine z0b hN rfl ?_
 refine qd rfl ?_
 refine qd rfl ?_
 refine qd rfl ?_
 obtain ⟨r4,h5,H⟩:=bnd H
 refine z0a (z0q (y3l s1 base2 bitSize3 r4 h5) ⟨.inl rfl,.inl rfl,.inl rfl,trivial⟩) ?_
 refine qd rfl ?_
 refine z0a (z10 rfl rfl) ?_
 refine z0a (z10 rfl rfl) ?_
 refine qe rfl ?_
 refine qe rfl ?_
 refine z0c ?_
 refine z0c ?_
 refine z0b hN rfl ?_
 refine qd rfl ?_
 refine z0a (x0d (n:=r4.2) (show Tryz.prog.underlying 135=some (.interface (Tryz.prog.methodsAt 135)) from by kernel_rfl) rfl) ?_
 refine z0g _ rfl (fun h6 => ?_) (fun h6 => ?_)
 ·replace H:=ift h6 H
  refine z0c ?_
  refine z0b hN rfl ?_
  refine qd rfl ?_
  refine qd rfl ?_
  refine qd rfl ?_
  refine qd rfl ?_
  refine qd rfl ?_
  obtain ⟨r7,h8,H⟩:=bnd H
  refine z0a (z0q (y7a [80,97,114,115,101,73,110,116] s1 base2 bitSize3 r4.2 r7 h8) ⟨.inl rfl,.inl rfl,.inl rfl,.inl rfl,.inl rfl,trivial⟩) ?_
  refine qe rfl ?_
  refine qe rfl ?_
  refine z0m ?_
  cases H
  exact ⟨trivial,.inl rfl,.inl rfl,trivial⟩
 ·replace H:=iff_ h6 H
  refine z0l ?_
  refine z0c ?_
  refine z0b hN rfl ?_
  refine qd rfl ?_
  refine qe rfl ?_
  refine qe rfl ?_
  refine z0m ?_
  cases H
  exact ⟨trivial,.inl rfl,.inl rfl,trivial⟩
theorem y52 (i1:Int) (base2:Int) (r:(Bs)) (H:z74 i1 base2=some r):Fn Tryz.prog 167 [vint i1,vint base2] (z1r [vstr r]):=by
 refine ⟨by kernel_rfl,z1e (us:=[vstr r]) Tryz.func167 rfl rfl rfl rfl fun X hN => ?_⟩
 unfold z74 at H
 refine z0c ?_
 refine z0b hN rfl ?_
 refine qe rfl ?_
 refine z0c ?_
 refine z0c ?_
 refine z0b hN rfl ?_
 refine qd rfl ?_
 refine z0a (z2z rfl rfl) ?_
 refine z0g _ rfl (fun h3 => ?_) (fun h3 => ?_)
 ·replace H:=ift h3 H
  refine z0c ?_
  refine z0c ?_
  refine z0b hN rfl ?_
  refine qd rfl ?_
  refine z0a (y0f rfl rfl) ?_
  refine qd rfl ?_
  refine z57 rfl rfl (fun hc=>z0h (.dat _) rfl) ?_
  refine z57 rfl rfl (fun hc=>z04 (cnd (c:=(decide (0≤i1))) hc) rfl) ?_
  refine z0a (z2c rfl (fun hb=>(cnd (c:=(decide (0≤i1))) hb)) rfl) ?_
  refine z0g _ rfl (fun h4 => ?_) (fun h4 => ?_)
  ·replace H:=ift h4 H
   refine z0c ?_
   refine z0b hN rfl ?_
   refine qd rfl ?_
   obtain ⟨r5,h6,H⟩:=bnd H
   refine z0a (z0q (y4h i1 r5 h6) ⟨.inl rfl,trivial⟩) ?_
   refine qe rfl ?_
   refine z0m ?_
   cases H
   exact ⟨trivial,.inl rfl,trivial⟩
  ·replace H:=iff_ h4 H
   cases H
 ·replace H:=iff_ h3 H
  refine z0l ?_
  refine z0c ?_
  refine z0b hN rfl ?_
  refine qd rfl ?_
  refine z0a (z7f tyU2 y7x rfl) ?_
  refine qd rfl ?_
  refine qd rfl ?_
  refine z0a (z04 rfl rfl) ?_
  obtain ⟨r7,h8,H⟩:=bnd H
  refine z0a (z0q (y2y ([]:(List Int)) (IntKind.wrap .u64 i1) base2 (decide (i1 < 0)) false r7 h8) ⟨.inr ⟨rfl,rfl⟩,.inl rfl,.inl rfl,.inl rfl,.inl rfl,trivial⟩) ?_
  refine qd rfl ?_
  refine z0a (z10 rfl rfl) ?_
  refine z0a (z10 rfl rfl) ?_
  refine qe rfl ?_
  refine qe rfl ?_
  refine z0c ?_
  refine z0b hN rfl ?_
  refine qd rfl ?_
  refine qe rfl ?_
  refine z0m ?_
  cases H
  exact ⟨trivial,.inl rfl,trivial⟩
theorem y6f (i1:Int) (base2:Int) (r:(Bs)) (H:z6o i1 base2=some r):Fn Tryz.prog 113 [vint i1,vint base2] (z1r [vstr r]):=by
 refine ⟨by kernel_rfl,z1e (us:=[vstr r]) Tryz.func113 rfl rfl rfl rfl fun X hN => ?_⟩
 unfold z6o at H
 refine z0c ?_
 refine z0b hN rfl ?_
 refine qe rfl ?_
 refine z0c ?_
 refine z0b hN rfl ?_
 refine qd rfl ?_
 refine qd rfl ?_
 obtain ⟨r3,h4,H⟩:=bnd H
 refine z0a (z0q (y52 i1 base2 r3 h4) ⟨.inl rfl,.inl rfl,trivial⟩) ?_
 refine qe rfl ?_
 refine z0m ?_
 cases H
 exact ⟨trivial,.inl rfl,trivial⟩
theorem y27 (s1:Bs) (r:(Bs)) (H:z61 s1=some r):Fn Tryz.prog 52 [vstr s1] (z1r [vstr r]):=by
 refine ⟨by kernel_rfl,z1e (us:=[vstr r]) Tryz.func52 rfl rfl rfl rfl fun X hN => ?_⟩
 unfold z61 at H
 refine z0c ?_
 refine z0b hN rfl ?_
 refine qe rfl ?_
 refine z0c ?_
 refine z0b hN rfl ?_
 refine qe rfl ?_
 refine z0c ?_
 refine z0c ?_
 refine z0b hN rfl ?_
 refine qd rfl ?_
 refine z0a (z1m tyU9 rfl) ?_
 refine qd rfl ?_
 refine z0v ?_
 obtain ⟨h5,H⟩:=gif H
 refine z3u (fun (k3:Nat) (s:Bs)=>[(0,.dat (vstr s1)),(3,.dat (vstr s)),(10,.dat (vint (s1.length:Int))),(11,.dat (vint (k3:Int)))]) (fun (k3:Nat) (s:Bs)=>[]) [] H ⟨rfl,rfl,rfl,rfl,trivial⟩ trivial (fun _ _=>rfl) ?_ ?_
 ·rintro bits2 H
  replace H:z7o bits2=some r:=H
  unfold z7o at H
  refine z0c ?_
  refine z0b hN rfl ?_
  refine z0a (z04 rfl rfl) ?_
  refine z0c ?_
  refine z0g _ rfl (fun h=>(lt_t h).elim) (fun h => ?_)
  refine z1u ?_
  refine z0c ?_
  refine z0b hN rfl ?_
  refine qe rfl ?_
  refine z03 (ι:=Bs) (fun i=>[(5,.dat (vstr i))]) (fun i=>[]) (fun i=>z7n i=some r) (fun i=>rfl) ?_ ?_
  ·skip
   refine z0v ?_
   refine y55 (fun (s:Bs×Bs)=>[(3,.dat (vstr s.1)),(5,.dat (vstr s.2))]) (fun (s:Bs×Bs)=>[]) (bits2,[]) H ⟨rfl,rfl,trivial⟩ trivial (fun _=>rfl) ?_
   rintro ⟨bits7,out8⟩ q9 H hq9
   replace H:z2n bits7 out8=some q9:=H
   unfold z2n at H
   refine z0c ?_
   refine z0c ?_
   refine z0b hN rfl ?_
   refine qd rfl ?_
   refine z0a (z9j rfl rfl) ?_
   refine z0g _ rfl (fun h10 => ?_) (fun h10 => ?_)
   ·replace H:=ift h10 H
    refine z0l ?_
    refine z0v ?_
    refine z0c ?_
    refine z0b hN rfl ?_
    refine qd rfl ?_
    refine z0a (z1m tyU9 rfl) ?_
    refine z0a (x7f rfl rfl) ?_
    refine qe rfl ?_
    refine z0c ?_
    refine z4k mixed hN rfl rfl ?_
    refine qd rfl ?_
    refine qd rfl ?_
    obtain ⟨l11,h12,H⟩:=bnd H
    refine z0a (y14 tyU9 rfl rfl rfl h12) ?_
    refine qd rfl ?_
    obtain ⟨l13,h14,H⟩:=bnd H
    refine z0a (y14 tyU9 rfl rfl rfl h14) ?_
    obtain ⟨h15,H⟩:=gif H
    refine z0a (z26 rfl rfl (Nat.le_trans h15 (by decide))) ?_
    obtain ⟨r16,h17,H⟩:=bnd H
    refine z0a (z0q (y6p (l11++l13) 2 64 r16 h17) ⟨.inl rfl,.inl rfl,.inl rfl,trivial⟩) ?_
    refine qd rfl ?_
    refine z0a (z10 rfl rfl) ?_
    refine z0a (z10 rfl rfl) ?_
    refine qe rfl ?_
    refine qe rfl ?_
    refine ⟨rfl,?_⟩
    refine z0c ?_
    refine z0b hN rfl ?_
    refine qd rfl ?_
    refine qd rfl ?_
    refine qd rfl ?_
    refine z0a (z1c _ rfl rfl (.inl ⟨rfl,rfl⟩)) ?_
    obtain ⟨l18,h19,H⟩:=bnd H
    refine z0a (y14 tyU9 rfl rfl rfl h19) ?_
    obtain ⟨h20,H⟩:=gif H
    refine z0a (z26 rfl rfl (Nat.le_trans h20 (by decide))) ?_
    refine qe rfl ?_
    refine z0b hN rfl ?_
    refine qd rfl ?_
    refine qd rfl ?_
    obtain ⟨l21,h22,H⟩:=bnd H
    refine z0a (y14 tyU9 rfl rfl rfl h22) ?_
    refine qe rfl ?_
    exact ⟨_,z84 H,⟨rfl,rfl,trivial⟩,trivial⟩
   ·replace H:=iff_ h10 H
    refine z1u ?_
    replace H:=outl H hq9
    exact ⟨out8,H,⟨rfl,trivial⟩,trivial⟩
  ·rintro out23 H
   replace H:z7n out23=some r:=H
   unfold z7n at H
   refine z0c ?_
   refine z0b hN rfl ?_
   refine qd rfl ?_
   refine qe rfl ?_
   refine z0m ?_
   cases H
   exact ⟨trivial,.inl rfl,trivial⟩
 ·rintro k3 x6 bits2 q4 h24 h25 H hq4
  replace H:z7m k3 x6 bits2=some q4:=H
  unfold z7m at H
  refine z0c ?_
  refine z0b hN rfl ?_
  refine z0a (z04 rfl rfl) ?_
  refine z0c ?_
  refine z0g _ rfl (fun h => ?_) (fun h=>(lt_f h24 h).elim)
  refine z0l ?_
  refine z0c ?_
  refine z0v ?_
  refine z0c ?_
  refine z0b hN rfl ?_
  refine qd rfl ?_
  refine qe rfl ?_
  refine z0b hN rfl ?_
  refine qd rfl ?_
  refine qd rfl ?_
  refine qd rfl ?_
  refine z0a (y00 tyU9 rfl rfl h25) ?_
  refine z0a (z7f tyU5 tyU2 rfl) ?_
  refine z0a (z1c _ rfl rfl (.inl ⟨rfl,rfl⟩)) ?_
  obtain ⟨r26,h27,H⟩:=bnd H
  refine z0a (z0q (y6f (wr (256+(IntKind.wrap .i64 (x6.toNat:Int)))) 2 r26 h27) ⟨.inl rfl,.inl rfl,trivial⟩) ?_
  obtain ⟨l28,h29,H⟩:=bnd H
  refine z0a (y14 tyU9 rfl rfl rfl h29) ?_
  obtain ⟨h30,H⟩:=gif H
  refine z0a (z26 rfl rfl (Nat.le_trans h30 (by decide))) ?_
  refine qe rfl ?_
  refine z0b hN rfl ?_
  refine z0a (z3r rfl rfl (by omega)) ?_
  refine qd rfl ?_
  exact ⟨_,z84 H,⟨rfl,rfl,rfl,rfl,trivial⟩,trivial⟩
theorem y94 (l1:(List z0i)) (c2:z0e) (v3:Int) (r:(Bs×Int)) (H:y1n l1 c2 v3=some r):Fn Tryz.prog 51 [vlst (List.map z06 l1),vagg (z0s c2),vint v3] (z1r [vstr r.1,vint r.2]):=by
 refine ⟨by kernel_rfl,z1e (us:=[vstr r.1,vint r.2]) Tryz.func51 rfl rfl rfl rfl fun X hN => ?_⟩
 unfold y1n at H
 refine z0c ?_
 refine z0b hN rfl ?_
 refine z0j (z9k 1 rfl) rfl ?_
 refine qe rfl ?_
 refine qe rfl ?_
 refine z0c ?_
 refine z0b hN rfl ?_
 refine z0w (z6d z28 rfl rfl rfl) rfl ?_
 obtain ⟨r4,h5,H⟩:=bnd H
 refine z0a (z0q (y7d c2 r4 h5) ⟨.inl rfl,trivial⟩) ?_
 refine qd rfl ?_
 refine z0a (z10 rfl rfl) ?_
 refine z0a (z10 rfl rfl) ?_
 refine qe rfl ?_
 refine qe rfl ?_
 refine z0c ?_
 refine z0c ?_
 refine z0b hN rfl ?_
 refine qd rfl ?_
 refine z0a (z48 rfl rfl) ?_
 refine z0g _ rfl (fun h6 => ?_) (fun h6 => ?_)
 ·replace H:=ift h6 H
  refine z0c ?_
  refine z0b hN rfl ?_
  refine qd rfl ?_
  refine qe rfl ?_
  refine qe rfl ?_
  refine z0m ?_
  cases H
  exact ⟨trivial,.inl rfl,.inl rfl,trivial⟩
 ·replace H:=iff_ h6 H
  refine z0l ?_
  refine z0c ?_
  refine z0c ?_
  refine z0b hN rfl ?_
  refine qd rfl ?_
  obtain ⟨r7,h8,H⟩:=bnd H
  refine z0a (z0q (y7c v3 r7 h8) ⟨.inl rfl,trivial⟩) ?_
  refine z0a (z2j rfl) ?_
  refine z0g _ rfl (fun h9 => ?_) (fun h9 => ?_)
  ·replace H:=ift h9 H
   refine z0c ?_
   refine z0b hN rfl ?_
   refine qe rfl ?_
   refine qe rfl ?_
   refine z0m ?_
   cases H
   exact ⟨trivial,.inl rfl,.inl rfl,trivial⟩
  ·replace H:=iff_ h9 H
   refine z0l ?_
   refine z0c ?_
   refine z0b hN rfl ?_
   refine qd rfl ?_
   refine qd rfl ?_
   obtain ⟨r10,h11,H⟩:=bnd H
   refine z0a (z0q (y9i l1 v3 r10 h11) ⟨.inl rfl,.inl rfl,trivial⟩) ?_
   refine qd rfl ?_
   refine z0a (z10 rfl rfl) ?_
   refine z0a (z10 rfl rfl) ?_
   refine z0j (z2s 2 x0w rfl) rfl ?_
   refine z0j (z1b y58 rfl rfl rfl rfl) rfl ?_
   refine qe rfl ?_
   refine z0c ?_
   refine z0v ?_
   refine z0c ?_
   refine z0b hN rfl ?_
   refine qd rfl ?_
   refine z0a (z2j rfl) ?_
   refine qe rfl ?_
   refine z0g _ rfl (fun h12 => ?_) (fun h12 => ?_)
   ·replace H:=ift h12 H
    refine z0c ?_
    refine z0b hN rfl ?_
    refine qe rfl ?_
    refine qe rfl ?_
    refine z0m ?_
    cases H
    exact ⟨trivial,.inl rfl,.inl rfl,trivial⟩
   ·replace H:=iff_ h12 H
    refine z0c ?_
    refine z0b hN rfl ?_
    refine z0a (z0r y41 rfl) ?_
    refine z0w (z0o tyS3 rfl rfl) rfl ?_
    refine z0a (z0r y6j rfl) ?_
    refine z0w (z0o tyS3 rfl rfl) rfl ?_
    refine z0a (z2m rfl rfl) ?_
    refine qe rfl ?_
    refine z0g _ rfl (fun h13 => ?_) (fun h13 => ?_)
    ·replace H:=ift h13 H
     refine z0c ?_
     refine z0b hN rfl ?_
     refine qe rfl ?_
     refine qe rfl ?_
     refine z0m ?_
     cases H
     exact ⟨trivial,.inl rfl,.inl rfl,trivial⟩
    ·replace H:=iff_ h13 H
     refine z0l ?_
     refine z0c ?_
     refine z4k mixed hN rfl rfl ?_
     refine z0a (z0r y5b rfl) ?_
     refine z0w (z0o tyS9 rfl rfl) rfl ?_
     obtain ⟨h14,H⟩:=gif H
     refine z0a (z26 rfl rfl (Nat.le_trans h14 (by decide))) ?_
     refine qd rfl ?_
     obtain ⟨r15,h16,H⟩:=bnd H
     refine z0a (z0q (y27 r4.1 r15 h16) ⟨.inl rfl,trivial⟩) ?_
     obtain ⟨h17,H⟩:=gif H
     refine z0a (z26 rfl rfl (Nat.le_trans h17 (by decide))) ?_
     refine qe rfl ?_
     refine ⟨rfl,?_⟩
     refine z0c ?_
     refine z0b hN rfl ?_
     refine qd rfl ?_
     obtain ⟨h18,H⟩:=gif H
     refine z0a (z26 rfl rfl (Nat.le_trans h18 (by decide))) ?_
     refine z0a (z0r y8h rfl) ?_
     refine z0w (z0o tyS9 rfl rfl) rfl ?_
     refine qd rfl ?_
     obtain ⟨r19,h20,H⟩:=bnd H
     refine z0a (z0q (y1e r10.1.Secret ((r10.1.Id++[46])++r15) r19 h20) ⟨.inl rfl,.inl rfl,trivial⟩) ?_
     obtain ⟨h21,H⟩:=gif H
     refine z0a (z26 rfl rfl (Nat.le_trans h21 (by decide))) ?_
     refine qe rfl ?_
     refine qe rfl ?_
     refine z0m ?_
     cases H
     exact ⟨trivial,.inl rfl,.inl rfl,trivial⟩
theorem x0l (s p q:Bs) (n:Int) (r:Bs) (H:y3q s p q n=some r):Fn Tryz.prog 119 [vstr s,vstr p,vstr q,vint n] (z1r [vstr r]):=by
 unfold y3q at H
 obtain ⟨⟨h1,h2,h3⟩,h4⟩:=gif H
 cases h4
 refine y2m (by kernel_rfl) fun M w vs hM h => ?_
 have hv:=y49 (us:=[.string ⟨s.toArray⟩,.string ⟨p.toArray⟩,.string ⟨q.toArray⟩,.int .i64 n]) h
 subst hv
 obtain ⟨m,hm⟩:=y9c hM
 have hle:=Lib.countB_le ⟨p.toArray⟩ (by simpa [ByteArray.size] using h2) _ ⟨s.toArray⟩ (Nat.le_refl _)
 have e1:(ByteArray.mk s.toArray).size=s.length:=by simp [ByteArray.size]
 have e2:(ByteArray.mk q.toArray).size=q.length:=by simp [ByteArray.size]
 have hmul:Lib.countB ⟨s.toArray⟩ ⟨p.toArray⟩ * q.length≤1000001 * 1000000:=Nat.mul_le_mul (by omega) h3
 refine (Tryz.strings_Replace ⟨s.toArray⟩ ⟨p.toArray⟩ ⟨q.toArray⟩ n m w (by rw [e1]; omega) hm (by simpa [ByteArray.size] using h2) (by rw [e1,e2]; omega)).mono ?_
 rintro e w' ⟨rfl,hb⟩
 exact ⟨_,rfl,rfl,Kp.of_below hb⟩

end Go.Proofs.YtndabcepiekebaaGreatDoor
