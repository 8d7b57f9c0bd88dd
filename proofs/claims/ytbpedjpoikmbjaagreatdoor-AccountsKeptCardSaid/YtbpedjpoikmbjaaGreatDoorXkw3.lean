import Derived.Test.YtbpedjpoikmbjaaGreatDoorXkw2
namespace Go.Proofs.YtbpedjpoikmbjaaGreatDoor
open Go.RowKit
set_option linter.unusedVariables false
set_option maxRecDepth 100000
set_option maxHeartbeats 2000000
theorem x51 (l:List ya):Fn Tryz.prog 155 [vlst (List.map qv l)] (yb [vfn 191 [qn [[vlst (List.map qv l)]] 0 0]]):=by
 refine⟨by kernel_rfl,yo (us:=[vfn 191 [qn [[vlst (List.map qv l)]] 0 0]]) Tryz.func155 Z Z Z Z λX hN=>?_⟩;exact zc hN Z (zd (xp 1 Z Z) Z (qe Z (zf (Yk 1 [vlst (List.map qv l)] Z Z (zo hN Z (za (Zy (us:=[_]) ⟨Z,U⟩) (qe Z (zm ⟨U,.inl Z,U⟩))))))))
theorem x6o:x1y Tryz.prog 191 4 false:=by
 intro vals M l cap J Jx W hn hvn hk hc hY h0;have hnt:Tryz.f191.ntmps=19:=Z;refine callsIn_of_wp Tryz.func191 Z U ?_ Z;rw [hnt];obtain⟨vc,hvc⟩:∃ vc:V,vc=vand (qn [[vlst (vals.map λc=>c.map vval)]] 0 0) cap:=⟨_,rfl⟩
 have hwk:Wk vc (qn [[vlst (vals.map λc=>c.map vval)]] 0 0):=by rw [hvc];exact x2b _ _
 have hvm:∀ W',(qn [[vlst (vals.map λc=>c.map vval)]] 0 0).p W' M cap->vc.p W' M cap:=λW' h=>by rw [hvc];exact⟨Z,h⟩
 have hvo:∀ W' M' v,vc.p W' M' v->v=cap:=λW' M' v h=>by rw [hvc] at h;exact h.1
 obtain⟨hM,hcp⟩:=hc _ _ h0;refine wpIn_seq (wpIn_mono (z0v (N:=19) hM ?hN ?hD [(0,vval (yv l)),(1,vc)] ?hr (Q:=λe f=>e = .normal/\f 0 = .dat (vval (yv l))/\f 1 = .dat vc/\f 3 = .dat (vint ((vals.length:Int)-1))) λX hN=>?_) ?_)
 case hN=>simp
 case hD=>rfl
 case hr=>exact⟨by simp [yv,vval],by simpa using hvm _ hcp,trivial⟩
 ·exact zo hN Z (za (y2h z4i Z hwk Z Z) (za (yx (C:=λc:List Value=>c.map vval) z77 Z) (za (Zc Z Z (by omega)) (qe Z ⟨Z,Z,Z,Z⟩))))
 rintro e a W1 ⟨hk1,hN,hD,f,own,g,M',hfr,rfl,e0,e1,e3⟩;have t0:a.tmps.getD 0 undef=yv l:=by have:=hfr 0;rw [e0] at this;exact this
 have t1:a.tmps.getD 1 undef=cap:=by have:=hfr 1;rw [e1] at this;exact hvo _ _ _ this
 have t3:a.tmps.getD 3 undef = .int .i64 ((vals.length:Int)-1):=by have:=hfr 3;rw [e3] at this;exact this
 refine wpIn_block (wpIn_loop_rounds (vals.length+1) ?_);have hJ1:=hk _ _ _ h0 hk1;clear hk1 hfr e0 e1 e3 hcp hM h0
 suffices key:∀ m,m<=vals.length->∀ a W,a.tmps.size=19->a.defers=[]->a.tmps.getD 0 undef=yv l->a.tmps.getD 1 undef=cap->a.tmps.getD 3 undef = .int .i64 ((m:Int)-1)->J m W->Code.roundsIn Fence.wide 0 Tryz.prog _ _ (m+1) a W from key _ (Nat.le_refl _) a W1 hN hD t0 t1 t3 hJ1
 clear t0 t1 t3 hN hD hJ1;intro m
 induction m with
 | zero =>
  intro _ a W hN hD t0 t1 t3 hJ;obtain⟨hM,hcp⟩:=hc _ _ hJ;rw [roundsIn_succ];refine wpIn_seq (wpIn_seq (wpIn_mono (z0v (N:=19) hM hN hD [(3,vint (-1))] ⟨by rw [t3];rfl,trivial⟩ (Q:=λe f=>e = .normal/\f 8 = .dat (zt (decide ((0:Int)<=-1)))) λX hN=>?_) ?_))
  ·exact zo hN Z (qd Z (za (jp Z Z) ⟨Z,Z⟩))
  rintro e a' W' ⟨hk1,hN',hD',f,own,g,M',hfr,rfl,e8⟩;have t8:a'.tmps.getD 8 undef = .bool false:=by have:=hfr 8;rw [e8] at this;exact this
  exact wpIn_cond_false t8 (wpIn_exit ⟨hD',_,results_none Z _ _ _,⟨_,Z⟩,.inl (hk _ _ _ hJ hk1)⟩)
 | succ m ih =>
  intro hm a W hN hD t0 t1 t3 hJ;obtain⟨hM,hcp⟩:=hc _ _ hJ;have hm3:(((m+1:Nat):Int)-1)=(m:Int):=by omega
  rw [hm3] at t3;rw [roundsIn_succ];refine wpIn_seq (wpIn_seq (wpIn_mono (z0v (N:=19) hM hN hD [(0,vval (yv l)),(1,vc),(3,vint (m:Int))] ⟨t0,by rw [t1];exact hvm _ hcp,by rw [t3];rfl,trivial⟩ (Q:=λe f=>e = .normal/\f 0 = .dat (vval (yv l))/\f 1 = .dat vc/\f 3 = .dat (vint (m:Int))/\f 8 = .dat (zt (decide ((0:Int)<=(m:Int))))) λX hN=>?_) ?_))
  ·exact zo hN Z (qd Z (za (jp Z Z) ⟨Z,Z,Z,Z,Z⟩))
  rintro e a1 W1 ⟨hk1,hN1,hD1,f,own,g,M',hfr,rfl,e0,e1,e3,e8⟩;have u0:a1.tmps.getD 0 undef=yv l:=by have:=hfr 0;rw [e0] at this;exact this
  have u1:a1.tmps.getD 1 undef=cap:=by have:=hfr 1;rw [e1] at this;exact hvo _ _ _ this
  have u3:a1.tmps.getD 3 undef = .int .i64 (m:Int):=by have:=hfr 3;rw [e3] at this;exact this
  have u8:a1.tmps.getD 8 undef = .bool true:=by
   have:=hfr 8;rw [e8,decide_eq_true (by omega)] at this;exact this
  refine wpIn_cond_true u8 (wpIn_skip ?_);have hJ1:=hk _ _ _ hJ hk1;clear hfr e0 e1 e3 e8 hk1 hJ hM hcp t0 t1 t3 hN hD;obtain⟨hM1,hcp1⟩:=hc _ _ hJ1;refine wpIn_seq (wpIn_block (wpIn_seq ?_));refine wpIn_region ?_;obtain⟨X,hX⟩:∃ X:Ctx,X=⟨λb=>M b,W1,[],19,none,[]⟩:=⟨_,rfl⟩
  have hrel:Rel X (frs (datL [(0,vval (yv l)),(1,vc),(3,vint (m:Int))])) (λ_=>none) ⟨λ_=>none,λ_ _=>none⟩ a1 W1:=by
   subst hX
   have he:Ext M (Mof ⟨λb=>M b,W1,[],19,none,[]⟩ ⟨λ_=>none,λ_ _=>none⟩ (λ_=>none)) W1 W1:=⟨Nat.le_refl _,λ_ _ _ _=>Z,λb _ hb=>by
    rcases hb with hb|⟨id,o,ho,_⟩
    ·exact hb
    ·cases ho⟩
   refine⟨Kp.refl _ _,⟨λb hb=>⟨hM1.1 b hb,by simp⟩,hM1.2.1,λb hb=>⟨hM1.2.2 b hb,by simp⟩⟩,hN1,hD1,λt=>z85 [(0,vval (yv l)),(1,vc),(3,vint (m:Int))] ⟨u0,by rw [u1];exact vc.keep he (hvm _ hcp1),by rw [u3];rfl,trivial⟩ t,λid o ho=>(by cases ho),λid _ o _ b ho=>(by cases ho),λid o b ho=>(by cases ho),λid _=>⟨rfl,λ_=>rfl⟩,λid e size es h=>(by cases h)⟩
  have hNX:X.N=19:=by rw [hX]
  have hRX:X.R=none:=by rw [hX]
  have hDX:X.D=[]:=by rw [hX]
  have hKX:∀ W',Kp X.S0 X.w0 W'->Kp [] W1 W':=λW' h=>by rw [hX] at h;exact h
  obtain⟨el,hel⟩:∃ el,vals[m]?=some el:=⟨_,List.getElem?_eq_getElem (by omega)⟩
  have hell:(el.map vval).length=4:=by rw [List.length_map];exact hvn el (List.mem_of_getElem? hel)
  have helm:(vals.map λc=>c.map vval)[m]?=some (el.map vval):=by rw [List.getElem?_map,hel];rfl
  have helD:vals.getD m []=el:=by rw [List.getD_eq_getElem?_getD,hel];rfl
  clear hX;refine opsR hRX (n:=6+2) rfl (z2e (P:=Tryz.prog) (X:=X) (by rw [hNX];rfl) [_,_,_,_,_,_] [_,_] 0 _ _ [] _ a1 W1 rfl hrel ?_);refine qd Z (qd Z (za (y2h z4i Z hwk Z Z) (qd Z ?_)))
  refine za (y2i (k:=m) z8j Z Z (by rw [List.length_map];omega) (λc hc=>by
   obtain⟨c',hc',rfl⟩:=List.mem_map.1 hc
   rw [List.length_map];exact hvn c' hc')) ?_
  refine za (wu ql Z helm hell) ?_;intro g2 a2 W2 k2;have v0:a2.tmps.getD 0 undef=yv l:=k2.fr 0;have v1:a2.tmps.getD 1 undef=cap:=hvo _ _ _ (k2.fr 1);have v3:a2.tmps.getD 3 undef = .int .i64 (m:Int):=k2.fr 3;have v11:a2.tmps.getD 11 undef=yv l:=k2.fr 11;have v12:a2.tmps.getD 12 undef = .int .i64 (m:Int):=k2.fr 12
  have v16:a2.tmps.getD 16 undef = .agg el.toArray:=by
   obtain⟨lv,h1,h2,h3⟩:(vagg (el.map vval)).p W2 _ (a2.tmps.getD 16 undef):=k2.fr 16;rw [h1]
   have:lv=el:=by
    apply List.ext_getElem?;intro j;rcases Nat.lt_or_ge j el.length with hj|hj
    ·obtain⟨y,p1,p2,_⟩:=h3 j (vval el[j]) (by rw [List.getElem?_map,List.getElem?_eq_getElem hj];rfl);rw [p1,List.getElem?_eq_getElem hj];exact congrArg some p2
    ·rw [List.getElem?_eq_none hj,List.getElem?_eq_none (by rw [List.length_map] at h2;omega)]
   rw [this]
  have hN2:a2.tmps.size=19:=k2.n.trans hNX;have hD2:a2.defers=[]:=k2.df.trans hDX;have hJ2:=hk _ _ _ hJ1 (hKX _ k2.kp);clear k2 hrel;obtain⟨fn,tm,asg,bdy,hrun,hR⟩:=hY m W2 (by omega) hJ2;rw [helD] at hrun
  change (Instr.yield l #[.int .i64 (m:Int),.agg el.toArray]).run Tryz.prog W2=_ at hrun
  rw [hRX];show wpOpsIn Fence.wide 0 Tryz.prog _ _ [6,7] a2 W2;refine z7y Z Z Z v11 (by simp [Act.eval,v12,v16]) hrun (hR.mono ?_);rintro e W3 (⟨rfl,hJ3⟩|⟨rfl,hJ3⟩)
  ·obtain⟨hM3,hcp3⟩:=hc _ _ hJ3;refine⟨_,Z,?_⟩;obtain⟨a3,ha3⟩:∃ a3:Act,a3=a2.put (some 17) (.bool true):=⟨_,rfl⟩
   have hN3:a3.tmps.size=19:=by rw [ha3];simpa [Act.put] using hN2
   have hD3:a3.defers=[]:=by rw [ha3];exact hD2
   have g3:∀ t,a3.tmps.getD t undef=if t=17 then .bool true else a2.tmps.getD t undef:=λt=>by rw [ha3];exact xj hN2 (by decide) t
   show wpOpsIn Fence.wide 0 Tryz.prog _ _ (List.range' 7 1) (a2.put (some 17) (.bool true)) W3;rw [← ha3];refine opsT (N:=19) (i:=7) (os:=[_]) hM3 hN3 hD3 [(0,vval (yv l)),(1,vc),(3,vint (m:Int)),(17,zt true)] ⟨?_,?_,?_,?_,U⟩ (Q':=λf=>f 0 = .dat (vval (yv l))/\f 1 = .dat vc/\f 3 = .dat (vint (m:Int))/\f 18 = .dat (zt (!true))) Z Z (λ_ _=>?_) ?_
   ·show _=_;rw [g3,if_neg (by decide)];exact v0
   ·rw [g3,if_neg (by decide),v1];exact hvm _ hcp3
   ·show _=_;rw [g3,if_neg (by decide)];exact v3
   ·show _=_;rw [g3,if_pos Z]
   ·exact za (wn Z) ⟨Z,Z,Z,Z⟩
   intro a4 W4 hk4 hN4 hD4 f g M' hfr ⟨e0,e1,e3,e18⟩;have z0:a4.tmps.getD 0 undef=yv l:=by have:=hfr 0;rw [e0] at this;exact this
   have z1:a4.tmps.getD 1 undef=cap:=by have:=hfr 1;rw [e1] at this;exact hvo _ _ _ this
   have z3:a4.tmps.getD 3 undef = .int .i64 (m:Int):=by have:=hfr 3;rw [e3] at this;exact this
   have z18:a4.tmps.getD 18 undef = .bool false:=by have:=hfr 18;rw [e18] at this;exact this
   refine wpIn_cond_false z18 (wpIn_skip ?_);have hJ4:=hk _ _ _ hJ3 hk4;obtain⟨hM4,hcp4⟩:=hc _ _ hJ4;refine wpIn_mono (z0v (N:=19) hM4 hN4 hD4 [(0,vval (yv l)),(1,vc),(3,vint (m:Int))] ⟨z0,by rw [z1];exact hvm _ hcp4,by rw [z3];rfl,trivial⟩ (Q:=λe f=>e = .normal/\f 0 = .dat (vval (yv l))/\f 1 = .dat vc/\f 3 = .dat (vint ((m:Int)-1))) λX hN=>?_) ?_
   ·exact zo hN Z (qd Z (za (Zc Z Z (by omega)) (qe Z ⟨Z,Z,Z,Z⟩)))
   rintro e a5 W5 ⟨hk5,hN5,hD5,f5,own5,g5,M5,hfr5,rfl,e0,e1,e3⟩;exact ih (by omega) a5 W5 hN5 hD5 (by have:=hfr5 0;rw [e0] at this;exact this) (by have:=hfr5 1;rw [e1] at this;exact hvo _ _ _ this) (by have:=hfr5 3;rw [e3] at this;exact this) (hk _ _ _ hJ4 hk5)
  ·refine⟨_,Z,?_⟩;obtain⟨a3,ha3⟩:∃ a3:Act,a3=a2.put (some 17) (.bool false):=⟨_,rfl⟩
   show wpOpsIn Fence.wide 0 Tryz.prog _ _ [7] (a2.put (some 17) (.bool false)) W3;rw [← ha3];have g3:∀ t,a3.tmps.getD t undef=if t=17 then .bool false else a2.tmps.getD t undef:=λt=>by rw [ha3];exact xj hN2 (by decide) t
   have hN3:a3.tmps.size=19:=by rw [ha3];simpa [Act.put] using hN2
   have hD3:a3.defers=[]:=by rw [ha3];exact hD2
   have v17:a3.tmps.getD 17 undef = .bool false:=by rw [g3,if_pos Z]
   rw [wpOpsIn_cons];unfold wpOpIn;refine⟨λ_ _=>U,?_⟩
   have hrun:∀ o:Oper,o.op = .unOp .not 4 (.tmp 17)->(o.semAt Fence.wide.round a3.eval).run Tryz.prog W3 = .ok (.value (.bool true)) W3:=λo ho=>by
    rw [Oper.semAt_eq Fence.wide.round a3.eval o (λc hc=>by rw [ho] at hc;cases hc)];have h1:a3.eval (.tmp 17) = .bool false:=v17;simp only [execOp,ho,h1,Op.unary];rfl
   rw [hrun _ Z,Oper.uponIn_value];have t18:(a3.put (some 18) (.bool true)).tmps.getD 18 undef = .bool true:=by rw [show (a3.put (some 18) (.bool true)).tmps=a3.tmps.setIfInBounds 18 (.bool true) from Z,xj hN3 (by decide),if_pos Z]
   exact wpIn_cond_true t18 (wpIn_ret ⟨hD3,_,results_none Z _ _ _,⟨_,Z⟩,.inr hJ3⟩)

theorem w5t (c1:zw) (l2:List zj) (app3:Bs) (product4:Bs) (v5:Int) (r:ya) (H:z95 c1 l2 app3 product4 v5=some r):Fn Tryz.prog 154 [vagg (yw c1),vlst (List.map yi l2),vstr app3,vstr product4,vint v5] (yb [vagg (qv r)]):=by
 refine⟨by kernel_rfl,y73 (us:=[vagg (qv r)]) Tryz.func154 Z Z Z Z λX hN hR=>?_⟩;unfold z95 at H;refine z1q hR (zo hN Z (zd (qr 1 Z) Z (zd (xp 2 Z Z) Z (zd (yz 3 jw Z) Z (z1q hR (zo hN Z (ze (yk qh Z Z Z) Z (qd Z (qd Z (qd Z (bE H λr6 h7 H=>za (zy (x6d c1 l2 app3 product4 r6 h7) ⟨.inl Z,.inl Z,.inl Z,.inl Z,U⟩) (qd Z (za (qm Z Z) (za (qm Z Z) (qe Z (qe Z (x1d hR (zo hN Z (qd Z (za (zy (x51 r6.1) ⟨.inl Z,U⟩) ⟨Z,?_⟩))))))))))))))))))));refine gE H λh9 H=>y70 (s0:=()) hR hN [(9,.ptr 2 0),(10,.ptr 3 0),(24,.dat (vfn 191 [qn [[vlst (List.map qv r6.1)]] 0 0]))] [(1,.box none 29 [.dat (vlst (List.map yr c1.Products)),.dat (vlst (List.map yp c1.Plans))]),(2,.box none 3 [.dat (vint v5)]),(3,.box none 114 [.dat (vint 0),.dat (vstr []),.dat (vint 0),.dat (vint 0)])] (λ(s:Unit)=>[(1,.box none 29 [.dat (vlst (List.map yr c1.Products)),.dat (vlst (List.map yp c1.Plans))]),(2,.box none 3 [.dat (vint v5)]),(3,.box none 114 [.dat (vint 0),.dat (vstr []),.dat (vint 0),.dat (vint 0)])]) x6o (λ_=>Z) (enters_of Tryz.func191 (by kernel_rfl) Z) Z h9 H ⟨Z,Z,Z,U⟩ ⟨Z,Z,Z,U⟩ Z Z (λ_=>Z) (λ_=>Z) (λ_ _=>Z) (λ_ _=>Z) (λ_=>Z) (λ_=>Z) (by decide) (by decide) ?_ ?_
 ·rintro A X k10 x11 ⟨⟩ q8 hN h12 h13 H hq8;replace H:y07 v5 k10 x11=some q8:=H;unfold y07 at H;refine zo hN Z (zd (yz 4 jw Z) Z (zd (yy ql Z Z Z Z) Z ⟨Z,[(9,.ptr 2 0),(10,.ptr 3 0),(14,.ptr 4 0)],[(1,.box (some (A 1)) 29 [.dat (vlst (List.map yr c1.Products)),.dat (vlst (List.map yp c1.Plans))]),(2,.box (some (A 2)) 3 [.dat (vint v5)]),(3,.box (some (A 3)) 114 [.dat (vint 0),.dat (vstr []),.dat (vint 0),.dat (vint 0)]),(4,.box none 114 [.dat (vint x11.State),.dat (vstr x11.Plan),.dat (vint x11.Since),.dat (vint x11.First)])],⟨Z,Z,Z,U⟩,⟨Z,Z,Z,Z,U⟩,Z,Z,Z,λX hN=>?_⟩));refine yc (zc hN Z (za (zi We Z) (ze (zk tyS3 Z Z) Z (ze (zk tyS3 Z Z) Z (za (kf Z Z) (zh _ Z (λh14=>?_) (λh14=>?_)))))))
  ·refine tE h14 H λH=>zc hN Z (ze (yk ql Z Z Z) Z (zd (yy ql Z Z Z Z) Z (zm ?_)));replace H:=retl H hq8;have eH:x11=r:=Option.some.inj H;subst eH;exact⟨[(1,.box none 29 [.dat (vlst (List.map yr c1.Products)),.dat (vlst (List.map yp c1.Plans))]),(2,.box none 3 [.dat (vint v5)]),(3,.box none 114 [.dat (vint x11.State),.dat (vstr x11.Plan),.dat (vint x11.Since),.dat (vint x11.First)])],Z,Z,Z,Z,⟨Z,Z,Z,U⟩,⟨.inl ⟨_,_,_,qv x11,Z,Z,Z,Z,ql⟩,U⟩⟩
  ·exact fE h14 H λH=>zp ⟨_,qf H,⟨Z,Z,Z,U⟩⟩
 ·rintro A X ⟨⟩ hN hR H;replace H:y08=some r:=H;unfold y08 at H;refine zc hN Z (bE H λr15 h16 H=>za (zy (y9j  r15 h16) U) (zd (yy ql Z Z Z Z) Z (zm ?_)));have eH:r15=r:=Option.some.inj H;subst eH;exact⟨.inr Z,[(10,.ptr 3 0)],[(3,.box (some (A 3)) 114 [.dat (vint r15.State),.dat (vstr r15.Plan),.dat (vint r15.Since),.dat (vint r15.First)])],⟨Z,U⟩,⟨Z,U⟩,Z,Z,⟨.inl ⟨_,_,_,qv r15,Z,Z,Z,Z,ql⟩,U⟩⟩
theorem w5p (s1:ya) (r:Bool) (H:y39 s1=some r):Fn Tryz.prog 156 [vagg (qv s1)] (yb [zt r]):=by
 refine⟨by kernel_rfl,yo (us:=[zt r]) Tryz.func156 Z Z Z Z λX hN=>?_⟩;unfold y39 at H;refine zc hN Z (zd (qr 1 Z) Z (qe Z (zc hN Z (za (zi vu Z) (ze (zk tyS3 Z Z) Z (za (qq Z Z) (qd Z (jt Z Z (λhc=>zi vu Z) (y20 Z Z (λhc=>zk tyS3 (cnd (c:=(!(decide (s1.State=2)))) hc) Z) Z jv (jt Z Z (λhc=>qq (cnd (c:=(!(decide (s1.State=2)))) hc) Z) (za (xn Z Z (λhb=>(cnd (c:=(!(decide (s1.State=2)))) (notI hb)))) (qe Z (zm ?_)))))))))))));cases H;exact⟨U,.inl Z,U⟩
theorem w5l (v1:zw) (v2:List zj) (v3:Bs) (v4:Bs) (v5:Int) (r:ya×ya×Bool) (H:z5v v1 v2 v3 v4 v5=some r):Fn Tryz.prog 115 [vagg (yw v1),vlst (List.map yi v2),vstr v3,vstr v4,vint v5] (yb [vagg (qv r.1),vagg (qv r.2.1),zt r.2.2]):=by
 refine⟨by kernel_rfl,y73 (us:=[vagg (qv r.1),vagg (qv r.2.1),zt r.2.2]) Tryz.func115 Z Z Z Z λX hN hR=>?_⟩;unfold z5v at H;refine z1q hR (zo hN Z (zd (qr 1 Z) Z (zd (yz 2 jw Z) Z (zd (yz 3 jw Z) Z (zd (yz 4 tyZ4 Z) Z (z1q hR (zo hN Z (qd Z (za (yj _ Z Z (.inr (.inr ⟨Z,Z⟩))) (qd Z (za (yj _ Z Z (.inl ⟨Z,Z⟩)) (za (yj _ Z Z (.inr (.inr ⟨Z,Z⟩))) (zd (yz 5 tyZ3 Z) Z (zd (yz 6 tyZ3 Z) Z (zd (wx tyS3 Z Z Z Z) Z (zd (wx tyS3 Z Z Z Z) Z (z1q hR (zo hN Z (ze (yk qh Z Z Z) Z (qd Z (qd Z (qd Z (bE H λr6 h7 H=>?_)))))))))))))))))))))));refine za (zy (x6d v1 v2 v3 v4 r6 h7) ⟨.inl Z,.inl Z,.inl Z,.inl Z,U⟩) (qd Z (za (qm Z Z) (za (qm Z Z) (zd (yz 7 x84 Z) Z (zd (wx z4i Z Z Z Z) Z (qe Z (z1q hR (zo hN Z (ze (yk qh Z Z Z) Z (qd Z (qd Z (qd Z (ze (zk tyS3 Z Z) Z (za (yj _ Z Z (.inr (.inl ⟨Z,Z⟩))) (bE H λr8 h9 H=>za (zy (w5t v1 v2 v3 v4 (wr ((wr ((wr (v5+1))*2592000000))-1)) r8 h9) ⟨.inl Z,.inl Z,.inl Z,.inl Z,.inl Z,U⟩) (zd (yz 8 jw Z) Z (zd (yy ql Z Z Z Z) Z (x1d hR (zo hN Z (ze (zk z4i Z Z) Z (za (zy (x51 r6.1) ⟨.inl Z,U⟩) ⟨Z,?_⟩)))))))))))))))))))));refine gE H λh11 H=>y70 (s0:=()) hR hN [(10,.ptr 2 0),(11,.ptr 3 0),(12,.ptr 4 0),(13,.ptr 5 0),(14,.ptr 6 0),(15,.ptr 7 0),(17,.ptr 8 0),(42,.dat (vfn 191 [qn [[vlst (List.map qv r6.1)]] 0 0]))] [(1,.box none 29 [.dat (vlst (List.map yr v1.Products)),.dat (vlst (List.map yp v1.Plans))]),(2,.box none 114 [.dat (vint 0),.dat (vstr []),.dat (vint 0),.dat (vint 0)]),(3,.box none 114 [.dat (vint 0),.dat (vstr []),.dat (vint 0),.dat (vint 0)]),(4,.box none 4 [.dat (zt false)]),(5,.box none 3 [.dat (vint (wr (v5*2592000000)))]),(6,.box none 3 [.dat (vint (wr ((wr (v5+1))*2592000000)))]),(7,.box none 110 [.dat (vlst (List.map qv r6.1))]),(8,.box none 114 [.dat (vint r8.State),.dat (vstr r8.Plan),.dat (vint r8.Since),.dat (vint r8.First)])] (λ(s:Unit)=>[(1,.box none 29 [.dat (vlst (List.map yr v1.Products)),.dat (vlst (List.map yp v1.Plans))]),(2,.box none 114 [.dat (vint 0),.dat (vstr []),.dat (vint 0),.dat (vint 0)]),(3,.box none 114 [.dat (vint 0),.dat (vstr []),.dat (vint 0),.dat (vint 0)]),(4,.box none 4 [.dat (zt false)]),(5,.box none 3 [.dat (vint (wr (v5*2592000000)))]),(6,.box none 3 [.dat (vint (wr ((wr (v5+1))*2592000000)))]),(7,.box none 110 [.dat (vlst (List.map qv r6.1))]),(8,.box none 114 [.dat (vint r8.State),.dat (vstr r8.Plan),.dat (vint r8.Since),.dat (vint r8.First)])]) x6o (λ_=>Z) (enters_of Tryz.func191 (by kernel_rfl) Z) Z h11 H ⟨Z,Z,Z,Z,Z,Z,Z,Z,U⟩ ⟨Z,Z,Z,Z,Z,Z,Z,Z,U⟩ Z Z (λ_=>Z) (λ_=>Z) (λ_ _=>Z) (λ_ _=>Z) (λ_=>Z) (λ_=>Z) (by decide) (by decide) ?_ ?_
 ·rintro A X k12 x13 ⟨⟩ q10 hN h14 h15 H hq10;replace H:z6l v5 r6 r8 k12 x13=some q10:=H;unfold z6l at H;refine zc hN Z (qe Z (zo hN Z (zd (yz 9 jw Z) Z (zd (yy ql Z Z Z Z) Z ⟨Z,[(10,.ptr 2 0),(11,.ptr 3 0),(12,.ptr 4 0),(13,.ptr 5 0),(14,.ptr 6 0),(15,.ptr 7 0),(17,.ptr 8 0),(18,.dat (vint (k12:Int))),(19,.ptr 9 0)],[(1,.box (some (A 1)) 29 [.dat (vlst (List.map yr v1.Products)),.dat (vlst (List.map yp v1.Plans))]),(2,.box (some (A 2)) 114 [.dat (vint 0),.dat (vstr []),.dat (vint 0),.dat (vint 0)]),(3,.box (some (A 3)) 114 [.dat (vint 0),.dat (vstr []),.dat (vint 0),.dat (vint 0)]),(4,.box (some (A 4)) 4 [.dat (zt false)]),(5,.box (some (A 5)) 3 [.dat (vint (wr (v5*2592000000)))]),(6,.box (some (A 6)) 3 [.dat (vint (wr ((wr (v5+1))*2592000000)))]),(7,.box (some (A 7)) 110 [.dat (vlst (List.map qv r6.1))]),(8,.box (some (A 8)) 114 [.dat (vint r8.State),.dat (vstr r8.Plan),.dat (vint r8.Since),.dat (vint r8.First)]),(9,.box none 114 [.dat (vint x13.State),.dat (vstr x13.Plan),.dat (vint x13.Since),.dat (vint x13.First)])],⟨Z,Z,Z,Z,Z,Z,Z,Z,Z,U⟩,⟨Z,Z,Z,Z,Z,Z,Z,Z,Z,U⟩,Z,Z,Z,λX hN=>?_⟩))));refine yc (zc hN Z (qe Z (yq (ι:=Int) (λi=>[(10,.ptr 2 0),(11,.ptr 3 0),(12,.ptr 4 0),(13,.ptr 5 0),(14,.ptr 6 0),(15,.ptr 7 0),(17,.ptr 8 0),(19,.ptr 9 0),(20,.dat (vint i))]) (λi=>[(1,.box (some (A 1)) 29 [.dat (vlst (List.map yr v1.Products)),.dat (vlst (List.map yp v1.Plans))]),(2,.box (some (A 2)) 114 [.dat (vint 0),.dat (vstr []),.dat (vint 0),.dat (vint 0)]),(3,.box (some (A 3)) 114 [.dat (vint 0),.dat (vstr []),.dat (vint 0),.dat (vint 0)]),(4,.box (some (A 4)) 4 [.dat (zt false)]),(5,.box (some (A 5)) 3 [.dat (vint (wr (v5*2592000000)))]),(6,.box (some (A 6)) 3 [.dat (vint (wr ((wr (v5+1))*2592000000)))]),(7,.box (some (A 7)) 110 [.dat (vlst (List.map qv r6.1))]),(8,.box (some (A 8)) 114 [.dat (vint r8.State),.dat (vstr r8.Plan),.dat (vint r8.Since),.dat (vint r8.First)]),(9,.box none 114 [.dat (vint x13.State),.dat (vstr x13.Plan),.dat (vint x13.Since),.dat (vint x13.First)])]) (λi=>z6m v5 r8 x13 i=some q10) (λi=>Z) ?_ ?_)))
  ·skip;refine zc hN Z (qd Z (za (qw Z Z (by omega)) (ze (zk z4i Z Z) Z (za (yx z77 Z) (za (yf Z Z) (zh _ Z (λh16=>?_) (λh16=>?_)))))))
   ·exact tE h16 H λH=>zo hN Z (ze (zk z4i Z Z) Z (qd Z (za (qw Z Z (by omega)) (bE H λx17 h18 H=>za (wm z8j (λ_=>Z) Z Z h18) (za (jd We Z) (za (wi tyS3 Z (qa h18) Z) (qe Z ⟨x17.Since,H,⟨Z,Z,Z,Z,Z,Z,Z,Z,Z,U⟩,⟨Z,Z,Z,Z,Z,Z,Z,Z,Z,U⟩⟩)))))))
   ·exact fE h16 H λH=>zp ⟨345686400000,H,⟨Z,Z,Z,Z,Z,Z,Z,Z,Z,U⟩,⟨Z,Z,Z,Z,Z,Z,Z,Z,Z,U⟩⟩
  ·rintro v19 H;replace H:z6m v5 r8 x13 v19=some q10:=H;unfold z6m at H;refine zc hN Z (ze (yk ql Z Z Z) Z (bE H λr20 h21 H=>za (zy (w5p x13 r20 h21) ⟨.inl Z,U⟩) (qd Z (qp Z Z (λhc=>zi We Z) (uo Z Z (λhc=>zk tyS3 (cnd (c:=r20) hc) Z) Z jv (uo Z Z (λhc=>zk tyS3 Z Z) Z jv (qp Z Z (λhc=>yf (cnd (c:=r20) hc) (cnd (c:=r20) hc)) (za (jc Z (λhb=>(cnd (c:=r20) hb)) Z) (qd Z (qp Z Z (λhc=>zg (.dat _) Z) (uo Z Z (λhc=>zk tyS3 Z Z) Z jv (qp Z Z (λhc=>wy (cnd (c:=(r20 && (decide (x13.Since < (wr ((wr (v5+1))*2592000000)))))) hc) (cnd (c:=(r20 && (decide (x13.Since < (wr ((wr (v5+1))*2592000000)))))) hc)) (za (jc Z (λhb=>(cnd (c:=(r20 && (decide (x13.Since < (wr ((wr (v5+1))*2592000000)))))) hb)) Z) (qd Z (qp Z Z (λhc=>zi We Z) (uo Z Z (λhc=>zk tyS3 (cnd (c:=((r20 && (decide (x13.Since < (wr ((wr (v5+1))*2592000000))))) && (decide ((wr (v5*2592000000)) < v19)))) hc) Z) Z jv (qp Z Z (λhc=>zg (.dat _) Z) (qp Z Z (λhc=>yf (cnd (c:=((r20 && (decide (x13.Since < (wr ((wr (v5+1))*2592000000))))) && (decide ((wr (v5*2592000000)) < v19)))) hc) (cnd (c:=((r20 && (decide (x13.Since < (wr ((wr (v5+1))*2592000000))))) && (decide ((wr (v5*2592000000)) < v19)))) hc)) (za (jc Z (λhb=>(cnd (c:=((r20 && (decide (x13.Since < (wr ((wr (v5+1))*2592000000))))) && (decide ((wr (v5*2592000000)) < v19)))) hb)) Z) (zh _ Z (λh22=>?_) (λh22=>?_)))))))))))))))))))))
   ·refine tE h22 H λH=>zf (wl mixed hN Z Z (ze (yk ql Z Z Z) Z (ze (yk ql Z Z Z) Z (zd (yy ql Z Z Z Z) Z (zd (yy ql Z Z Z Z) Z (zd (wx tyS4 Z Z Z Z) Z ⟨Z,?_⟩))))));refine zm ?_;replace H:=retl H hq10;cases H;exact⟨[(1,.box none 29 [.dat (vlst (List.map yr v1.Products)),.dat (vlst (List.map yp v1.Plans))]),(2,.box none 114 [.dat (vint x13.State),.dat (vstr x13.Plan),.dat (vint x13.Since),.dat (vint x13.First)]),(3,.box none 114 [.dat (vint r8.State),.dat (vstr r8.Plan),.dat (vint r8.Since),.dat (vint r8.First)]),(4,.box none 4 [.dat (zt true)]),(5,.box none 3 [.dat (vint (wr (v5*2592000000)))]),(6,.box none 3 [.dat (vint (wr ((wr (v5+1))*2592000000)))]),(7,.box none 110 [.dat (vlst (List.map qv r6.1))]),(8,.box none 114 [.dat (vint r8.State),.dat (vstr r8.Plan),.dat (vint r8.Since),.dat (vint r8.First)])],Z,Z,Z,Z,⟨Z,Z,Z,Z,Z,Z,Z,Z,U⟩,⟨.inl ⟨_,_,_,qv x13,Z,Z,Z,Z,ql⟩,.inl ⟨_,_,_,qv r8,Z,Z,Z,Z,ql⟩,.inr ⟨_,_,Z,Z,tyS4⟩,U⟩⟩
   ·exact fE h22 H λH=>zp ⟨_,qf H,⟨Z,Z,Z,Z,Z,Z,Z,Z,U⟩⟩
 ·rintro A X ⟨⟩ hN hR H;replace H:y4m r8=some r:=H;unfold y4m at H;refine zf (wl mixed hN Z Z (za (ye (u':=vagg (qv (ya.mk 0 [] 0 0))) (vj [] jw z78 Z U) Z) (ze (yk ql Z Z Z) Z (zd (yy ql Z Z Z Z) Z (zd (yy ql Z Z Z Z) Z (zd (wx tyS4 Z Z Z Z) Z ⟨Z,?_⟩))))));refine zm ?_;cases H;exact⟨.inr Z,[(10,.ptr 2 0),(11,.ptr 3 0),(12,.ptr 4 0)],[(2,.box (some (A 2)) 114 [.dat (vint 0),.dat (vstr []),.dat (vint 0),.dat (vint 0)]),(3,.box (some (A 3)) 114 [.dat (vint r8.State),.dat (vstr r8.Plan),.dat (vint r8.Since),.dat (vint r8.First)]),(4,.box (some (A 4)) 4 [.dat (zt false)])],⟨Z,Z,Z,U⟩,⟨Z,Z,Z,U⟩,Z,Z,⟨.inl ⟨_,_,_,qv (ya.mk 0 [] 0 0),Z,Z,Z,Z,ql⟩,.inl ⟨_,_,_,qv r8,Z,Z,Z,Z,ql⟩,.inr ⟨_,_,Z,Z,tyS4⟩,U⟩⟩
theorem w5q (l1:List zz) (app2:Bs) (product3:Bs) (month4:Int) (r:Int) (H:z5x l1 app2 product3 month4=some r):Fn Tryz.prog 116 [vlst (List.map wa l1),vstr app2,vstr product3,vint month4] (yb [vint r]):=by
 refine⟨by kernel_rfl,yo (us:=[vint r]) Tryz.func116 Z Z Z Z λX hN=>?_⟩;unfold z5x at H;refine zc hN Z (qe Z (zf (zc hN Z (qd Z (za (yx z0g Z) (qd Z (yc (gE H λh7 H=>va (λ(k5:Nat) (s:Unit)=>[(1,.dat (vstr app2)),(2,.dat (vstr product3)),(3,.dat (vint month4)),(11,.dat (vlst (List.map wa l1))),(12,.dat (vint (l1.length:Int))),(13,.dat (vint (k5:Int)))]) (λ(k5:Nat) (s:Unit)=>[]) () H ⟨Z,Z,Z,Z,Z,Z,U⟩ U (λ_ _=>Z) ?_ ?_))))))))
 ·rintro⟨⟩ H;replace H:y4o=some r:=H;unfold y4o at H;refine zc hN Z (za (yf Z Z) (zf (zh _ Z (λh=>(lt_t h).elim) (λh=>?_))));refine qg (zc hN Z (qe Z (zm ?_)));cases H;exact⟨U,.inl Z,U⟩
 ·rintro k5 x8 ⟨⟩ q6 h9 h10 H hq6;replace H:z6n app2 product3 month4 k5 x8=some q6:=H;unfold z6n at H;refine zc hN Z (za (yf Z Z) (zf (zh _ Z (λh=>?_) (λh=>(lt_f h9 h).elim))));refine zp (zf (yc (zc hN Z (za (wm z14 (λ_=>Z) Z Z h10) (za (wu Zr Z (qa h10) Z) (zd (yz 1 z1x Z) Z (zd (yy Zr Z Z Z Z) Z (zc hN Z (za (zi Qe Z) (ze (zk tyS9 Z Z) Z (qd Z (za (uz Z Z) (qd Z (qp Z Z (λhc=>zi z0n Z) (uo Z Z (λhc=>zk tyS9 (cnd (c:=(decide (x8.App=app2))) hc) Z) Z jv (qp Z Z (λhc=>zg (.dat _) Z) (qp Z Z (λhc=>uz (cnd (c:=(decide (x8.App=app2))) hc) (cnd (c:=(decide (x8.App=app2))) hc)) (za (jc Z (λhb=>(cnd (c:=(decide (x8.App=app2))) hb)) Z) (qd Z (qp Z Z (λhc=>zi Yo Z) (uo Z Z (λhc=>zk tyS3 (cnd (c:=((decide (x8.App=app2)) && (decide (x8.Product=product3)))) hc) Z) Z jv (qp Z Z (λhc=>zg (.dat _) Z) (qp Z Z (λhc=>qq (cnd (c:=((decide (x8.App=app2)) && (decide (x8.Product=product3)))) hc) (cnd (c:=((decide (x8.App=app2)) && (decide (x8.Product=product3)))) hc)) ?_)))))))))))))))))))))));refine za (jc Z (λhb=>(cnd (c:=((decide (x8.App=app2)) && (decide (x8.Product=product3)))) hb)) Z) (zh _ Z (λh11=>?_) (λh11=>?_))
  ·refine tE h11 H λH=>zc hN Z (za (zi z8d Z) (ze (zk tyS3 Z Z) Z (qe Z (zm ?_))));replace H:=retl H hq6;cases H;exact⟨U,.inl Z,U⟩
  ·exact fE h11 H λH=>zp (zo hN Z (za (qw Z Z (by omega)) (qd Z ⟨_,qf H,⟨Z,Z,Z,Z,Z,Z,U⟩,U⟩)))
theorem w4m (l:List yu):Fn Tryz.prog 157 [vlst (List.map wd l)] (yb [vfn 192 [qn [[vlst (List.map wd l)]] 0 0]]):=by
 refine⟨by kernel_rfl,yo (us:=[vfn 192 [qn [[vlst (List.map wd l)]] 0 0]]) Tryz.func157 Z Z Z Z λX hN=>?_⟩;exact zc hN Z (zd (xp 1 Z Z) Z (qe Z (zf (Yk 1 [vlst (List.map wd l)] Z Z (zo hN Z (za (Zy (us:=[_]) ⟨Z,U⟩) (qe Z (zm ⟨U,.inl Z,U⟩))))))))
theorem w6t:x1y Tryz.prog 192 2 false:=by
 intro vals M l cap J Jx W hn hvn hk hc hY h0;have hnt:Tryz.f192.ntmps=19:=Z;refine callsIn_of_wp Tryz.func192 Z U ?_ Z;rw [hnt];obtain⟨vc,hvc⟩:∃ vc:V,vc=vand (qn [[vlst (vals.map λc=>c.map vval)]] 0 0) cap:=⟨_,rfl⟩
 have hwk:Wk vc (qn [[vlst (vals.map λc=>c.map vval)]] 0 0):=by rw [hvc];exact x2b _ _
 have hvm:∀ W',(qn [[vlst (vals.map λc=>c.map vval)]] 0 0).p W' M cap->vc.p W' M cap:=λW' h=>by rw [hvc];exact⟨Z,h⟩
 have hvo:∀ W' M' v,vc.p W' M' v->v=cap:=λW' M' v h=>by rw [hvc] at h;exact h.1
 obtain⟨hM,hcp⟩:=hc _ _ h0;refine wpIn_seq (wpIn_mono (z0v (N:=19) hM ?hN ?hD [(0,vval (yv l)),(1,vc)] ?hr (Q:=λe f=>e = .normal/\f 0 = .dat (vval (yv l))/\f 1 = .dat vc/\f 3 = .dat (vint ((vals.length:Int)-1))) λX hN=>?_) ?_)
 case hN=>simp
 case hD=>rfl
 case hr=>exact⟨by simp [yv,vval],by simpa using hvm _ hcp,trivial⟩
 ·exact zo hN Z (za (y2h ku Z hwk Z Z) (za (yx (C:=λc:List Value=>c.map vval) Qw Z) (za (Zc Z Z (by omega)) (qe Z ⟨Z,Z,Z,Z⟩))))
 rintro e a W1 ⟨hk1,hN,hD,f,own,g,M',hfr,rfl,e0,e1,e3⟩;have t0:a.tmps.getD 0 undef=yv l:=by have:=hfr 0;rw [e0] at this;exact this
 have t1:a.tmps.getD 1 undef=cap:=by have:=hfr 1;rw [e1] at this;exact hvo _ _ _ this
 have t3:a.tmps.getD 3 undef = .int .i64 ((vals.length:Int)-1):=by have:=hfr 3;rw [e3] at this;exact this
 refine wpIn_block (wpIn_loop_rounds (vals.length+1) ?_);have hJ1:=hk _ _ _ h0 hk1;clear hk1 hfr e0 e1 e3 hcp hM h0
 suffices key:∀ m,m<=vals.length->∀ a W,a.tmps.size=19->a.defers=[]->a.tmps.getD 0 undef=yv l->a.tmps.getD 1 undef=cap->a.tmps.getD 3 undef = .int .i64 ((m:Int)-1)->J m W->Code.roundsIn Fence.wide 0 Tryz.prog _ _ (m+1) a W from key _ (Nat.le_refl _) a W1 hN hD t0 t1 t3 hJ1
 clear t0 t1 t3 hN hD hJ1;intro m
 induction m with
 | zero =>
  intro _ a W hN hD t0 t1 t3 hJ;obtain⟨hM,hcp⟩:=hc _ _ hJ;rw [roundsIn_succ];refine wpIn_seq (wpIn_seq (wpIn_mono (z0v (N:=19) hM hN hD [(3,vint (-1))] ⟨by rw [t3];rfl,trivial⟩ (Q:=λe f=>e = .normal/\f 8 = .dat (zt (decide ((0:Int)<=-1)))) λX hN=>?_) ?_))
  ·exact zo hN Z (qd Z (za (jp Z Z) ⟨Z,Z⟩))
  rintro e a' W' ⟨hk1,hN',hD',f,own,g,M',hfr,rfl,e8⟩;have t8:a'.tmps.getD 8 undef = .bool false:=by have:=hfr 8;rw [e8] at this;exact this
  exact wpIn_cond_false t8 (wpIn_exit ⟨hD',_,results_none Z _ _ _,⟨_,Z⟩,.inl (hk _ _ _ hJ hk1)⟩)
 | succ m ih =>
  intro hm a W hN hD t0 t1 t3 hJ;obtain⟨hM,hcp⟩:=hc _ _ hJ;have hm3:(((m+1:Nat):Int)-1)=(m:Int):=by omega
  rw [hm3] at t3;rw [roundsIn_succ];refine wpIn_seq (wpIn_seq (wpIn_mono (z0v (N:=19) hM hN hD [(0,vval (yv l)),(1,vc),(3,vint (m:Int))] ⟨t0,by rw [t1];exact hvm _ hcp,by rw [t3];rfl,trivial⟩ (Q:=λe f=>e = .normal/\f 0 = .dat (vval (yv l))/\f 1 = .dat vc/\f 3 = .dat (vint (m:Int))/\f 8 = .dat (zt (decide ((0:Int)<=(m:Int))))) λX hN=>?_) ?_))
  ·exact zo hN Z (qd Z (za (jp Z Z) ⟨Z,Z,Z,Z,Z⟩))
  rintro e a1 W1 ⟨hk1,hN1,hD1,f,own,g,M',hfr,rfl,e0,e1,e3,e8⟩;have u0:a1.tmps.getD 0 undef=yv l:=by have:=hfr 0;rw [e0] at this;exact this
  have u1:a1.tmps.getD 1 undef=cap:=by have:=hfr 1;rw [e1] at this;exact hvo _ _ _ this
  have u3:a1.tmps.getD 3 undef = .int .i64 (m:Int):=by have:=hfr 3;rw [e3] at this;exact this
  have u8:a1.tmps.getD 8 undef = .bool true:=by
   have:=hfr 8;rw [e8,decide_eq_true (by omega)] at this;exact this
  refine wpIn_cond_true u8 (wpIn_skip ?_);have hJ1:=hk _ _ _ hJ hk1;clear hfr e0 e1 e3 e8 hk1 hJ hM hcp t0 t1 t3 hN hD;obtain⟨hM1,hcp1⟩:=hc _ _ hJ1;refine wpIn_seq (wpIn_block (wpIn_seq ?_));refine wpIn_region ?_;obtain⟨X,hX⟩:∃ X:Ctx,X=⟨λb=>M b,W1,[],19,none,[]⟩:=⟨_,rfl⟩
  have hrel:Rel X (frs (datL [(0,vval (yv l)),(1,vc),(3,vint (m:Int))])) (λ_=>none) ⟨λ_=>none,λ_ _=>none⟩ a1 W1:=by
   subst hX
   have he:Ext M (Mof ⟨λb=>M b,W1,[],19,none,[]⟩ ⟨λ_=>none,λ_ _=>none⟩ (λ_=>none)) W1 W1:=⟨Nat.le_refl _,λ_ _ _ _=>Z,λb _ hb=>by
    rcases hb with hb|⟨id,o,ho,_⟩
    ·exact hb
    ·cases ho⟩
   refine⟨Kp.refl _ _,⟨λb hb=>⟨hM1.1 b hb,by simp⟩,hM1.2.1,λb hb=>⟨hM1.2.2 b hb,by simp⟩⟩,hN1,hD1,λt=>z85 [(0,vval (yv l)),(1,vc),(3,vint (m:Int))] ⟨u0,by rw [u1];exact vc.keep he (hvm _ hcp1),by rw [u3];rfl,trivial⟩ t,λid o ho=>(by cases ho),λid _ o _ b ho=>(by cases ho),λid o b ho=>(by cases ho),λid _=>⟨rfl,λ_=>rfl⟩,λid e size es h=>(by cases h)⟩
  have hNX:X.N=19:=by rw [hX]
  have hRX:X.R=none:=by rw [hX]
  have hDX:X.D=[]:=by rw [hX]
  have hKX:∀ W',Kp X.S0 X.w0 W'->Kp [] W1 W':=λW' h=>by rw [hX] at h;exact h
  obtain⟨el,hel⟩:∃ el,vals[m]?=some el:=⟨_,List.getElem?_eq_getElem (by omega)⟩
  have hell:(el.map vval).length=2:=by rw [List.length_map];exact hvn el (List.mem_of_getElem? hel)
  have helm:(vals.map λc=>c.map vval)[m]?=some (el.map vval):=by rw [List.getElem?_map,hel];rfl
  have helD:vals.getD m []=el:=by rw [List.getD_eq_getElem?_getD,hel];rfl
  clear hX;refine opsR hRX (n:=6+2) rfl (z2e (P:=Tryz.prog) (X:=X) (by rw [hNX];rfl) [_,_,_,_,_,_] [_,_] 0 _ _ [] _ a1 W1 rfl hrel ?_);refine qd Z (qd Z (za (y2h ku Z hwk Z Z) (qd Z ?_)))
  refine za (y2i (k:=m) Wg Z Z (by rw [List.length_map];omega) (λc hc=>by
   obtain⟨c',hc',rfl⟩:=List.mem_map.1 hc
   rw [List.length_map];exact hvn c' hc')) ?_
  refine za (wu z0k Z helm hell) ?_;intro g2 a2 W2 k2;have v0:a2.tmps.getD 0 undef=yv l:=k2.fr 0;have v1:a2.tmps.getD 1 undef=cap:=hvo _ _ _ (k2.fr 1);have v3:a2.tmps.getD 3 undef = .int .i64 (m:Int):=k2.fr 3;have v11:a2.tmps.getD 11 undef=yv l:=k2.fr 11;have v12:a2.tmps.getD 12 undef = .int .i64 (m:Int):=k2.fr 12
  have v16:a2.tmps.getD 16 undef = .agg el.toArray:=by
   obtain⟨lv,h1,h2,h3⟩:(vagg (el.map vval)).p W2 _ (a2.tmps.getD 16 undef):=k2.fr 16;rw [h1]
   have:lv=el:=by
    apply List.ext_getElem?;intro j;rcases Nat.lt_or_ge j el.length with hj|hj
    ·obtain⟨y,p1,p2,_⟩:=h3 j (vval el[j]) (by rw [List.getElem?_map,List.getElem?_eq_getElem hj];rfl);rw [p1,List.getElem?_eq_getElem hj];exact congrArg some p2
    ·rw [List.getElem?_eq_none hj,List.getElem?_eq_none (by rw [List.length_map] at h2;omega)]
   rw [this]
  have hN2:a2.tmps.size=19:=k2.n.trans hNX;have hD2:a2.defers=[]:=k2.df.trans hDX;have hJ2:=hk _ _ _ hJ1 (hKX _ k2.kp);clear k2 hrel;obtain⟨fn,tm,asg,bdy,hrun,hR⟩:=hY m W2 (by omega) hJ2;rw [helD] at hrun
  change (Instr.yield l #[.int .i64 (m:Int),.agg el.toArray]).run Tryz.prog W2=_ at hrun
  rw [hRX];show wpOpsIn Fence.wide 0 Tryz.prog _ _ [6,7] a2 W2;refine z7y Z Z Z v11 (by simp [Act.eval,v12,v16]) hrun (hR.mono ?_);rintro e W3 (⟨rfl,hJ3⟩|⟨rfl,hJ3⟩)
  ·obtain⟨hM3,hcp3⟩:=hc _ _ hJ3;refine⟨_,Z,?_⟩;obtain⟨a3,ha3⟩:∃ a3:Act,a3=a2.put (some 17) (.bool true):=⟨_,rfl⟩
   have hN3:a3.tmps.size=19:=by rw [ha3];simpa [Act.put] using hN2
   have hD3:a3.defers=[]:=by rw [ha3];exact hD2
   have g3:∀ t,a3.tmps.getD t undef=if t=17 then .bool true else a2.tmps.getD t undef:=λt=>by rw [ha3];exact xj hN2 (by decide) t
   show wpOpsIn Fence.wide 0 Tryz.prog _ _ (List.range' 7 1) (a2.put (some 17) (.bool true)) W3;rw [← ha3];refine opsT (N:=19) (i:=7) (os:=[_]) hM3 hN3 hD3 [(0,vval (yv l)),(1,vc),(3,vint (m:Int)),(17,zt true)] ⟨?_,?_,?_,?_,U⟩ (Q':=λf=>f 0 = .dat (vval (yv l))/\f 1 = .dat vc/\f 3 = .dat (vint (m:Int))/\f 18 = .dat (zt (!true))) Z Z (λ_ _=>?_) ?_
   ·show _=_;rw [g3,if_neg (by decide)];exact v0
   ·rw [g3,if_neg (by decide),v1];exact hvm _ hcp3
   ·show _=_;rw [g3,if_neg (by decide)];exact v3
   ·show _=_;rw [g3,if_pos Z]
   ·exact za (wn Z) ⟨Z,Z,Z,Z⟩
   intro a4 W4 hk4 hN4 hD4 f g M' hfr ⟨e0,e1,e3,e18⟩;have z0:a4.tmps.getD 0 undef=yv l:=by have:=hfr 0;rw [e0] at this;exact this
   have z1:a4.tmps.getD 1 undef=cap:=by have:=hfr 1;rw [e1] at this;exact hvo _ _ _ this
   have z3:a4.tmps.getD 3 undef = .int .i64 (m:Int):=by have:=hfr 3;rw [e3] at this;exact this
   have z18:a4.tmps.getD 18 undef = .bool false:=by have:=hfr 18;rw [e18] at this;exact this
   refine wpIn_cond_false z18 (wpIn_skip ?_);have hJ4:=hk _ _ _ hJ3 hk4;obtain⟨hM4,hcp4⟩:=hc _ _ hJ4;refine wpIn_mono (z0v (N:=19) hM4 hN4 hD4 [(0,vval (yv l)),(1,vc),(3,vint (m:Int))] ⟨z0,by rw [z1];exact hvm _ hcp4,by rw [z3];rfl,trivial⟩ (Q:=λe f=>e = .normal/\f 0 = .dat (vval (yv l))/\f 1 = .dat vc/\f 3 = .dat (vint ((m:Int)-1))) λX hN=>?_) ?_
   ·exact zo hN Z (qd Z (za (Zc Z Z (by omega)) (qe Z ⟨Z,Z,Z,Z⟩)))
   rintro e a5 W5 ⟨hk5,hN5,hD5,f5,own5,g5,M5,hfr5,rfl,e0,e1,e3⟩;exact ih (by omega) a5 W5 hN5 hD5 (by have:=hfr5 0;rw [e0] at this;exact this) (by have:=hfr5 1;rw [e1] at this;exact hvo _ _ _ this) (by have:=hfr5 3;rw [e3] at this;exact this) (hk _ _ _ hJ4 hk5)
  ·refine⟨_,Z,?_⟩;obtain⟨a3,ha3⟩:∃ a3:Act,a3=a2.put (some 17) (.bool false):=⟨_,rfl⟩
   show wpOpsIn Fence.wide 0 Tryz.prog _ _ [7] (a2.put (some 17) (.bool false)) W3;rw [← ha3];have g3:∀ t,a3.tmps.getD t undef=if t=17 then .bool false else a2.tmps.getD t undef:=λt=>by rw [ha3];exact xj hN2 (by decide) t
   have hN3:a3.tmps.size=19:=by rw [ha3];simpa [Act.put] using hN2
   have hD3:a3.defers=[]:=by rw [ha3];exact hD2
   have v17:a3.tmps.getD 17 undef = .bool false:=by rw [g3,if_pos Z]
   rw [wpOpsIn_cons];unfold wpOpIn;refine⟨λ_ _=>U,?_⟩
   have hrun:∀ o:Oper,o.op = .unOp .not 4 (.tmp 17)->(o.semAt Fence.wide.round a3.eval).run Tryz.prog W3 = .ok (.value (.bool true)) W3:=λo ho=>by
    rw [Oper.semAt_eq Fence.wide.round a3.eval o (λc hc=>by rw [ho] at hc;cases hc)];have h1:a3.eval (.tmp 17) = .bool false:=v17;simp only [execOp,ho,h1,Op.unary];rfl
   rw [hrun _ Z,Oper.uponIn_value];have t18:(a3.put (some 18) (.bool true)).tmps.getD 18 undef = .bool true:=by rw [show (a3.put (some 18) (.bool true)).tmps=a3.tmps.setIfInBounds 18 (.bool true) from Z,xj hN3 (by decide),if_pos Z]
   exact wpIn_cond_true t18 (wpIn_ret ⟨hD3,_,results_none Z _ _ _,⟨_,Z⟩,.inr hJ3⟩)

theorem w5w (p1:yd) (calls2:Int) (r:Int) (H:z98 p1 calls2=some r):Fn Tryz.prog 117 [vagg (yp p1),vint calls2] (yb [vint r]):=by
 refine⟨by kernel_rfl,y73 (us:=[vint r]) Tryz.func117 Z Z Z Z λX hN hR=>?_⟩;unfold z98 at H;refine z1q hR (zo hN Z (zd (qr 1 Z) Z (qe Z (z1q hR (zo hN Z (qd Z (za (zi z8i Z) (ze (zk tyS3 Z Z) Z (za (yj _ Z Z (.inr (.inl ⟨Z,Z⟩))) (za (y6p Z Z) (zd (yz 2 tyZ3 Z) Z (zd (yz 3 tyZ3 Z) Z (zd (wx tyS3 Z Z Z Z) Z (zd (wx tyS3 Z Z Z Z) Z (x1d hR (zo hN Z (za (zi ul Z) (ze (zk ku Z Z) Z (za (zy (w4m p1.Tiers) ⟨.inl Z,U⟩) ⟨Z,?_⟩)))))))))))))))))));refine gE H λh6 H=>y70 (s0:=((max 0 (wr (calls2-p1.Free))),0)) hR hN [(4,.dat (vint 0)),(5,.ptr 2 0),(6,.ptr 3 0),(16,.dat (vfn 192 [qn [[vlst (List.map wd p1.Tiers)]] 0 0]))] [(1,.box none 103 [.dat (vstr p1.Key),.dat (vstr p1.Product),.dat (vint p1.Base),.dat (vint p1.Free),.dat (vlst (List.map wd p1.Tiers)),.dat (vint p1.Limit),.dat (vint p1.Trial),.dat (zt p1.Asked)]),(2,.box none 3 [.dat (vint (max 0 (wr (calls2-p1.Free))))]),(3,.box none 3 [.dat (vint 0)])] (λ(s:Int×Int)=>[(1,.box none 103 [.dat (vstr p1.Key),.dat (vstr p1.Product),.dat (vint p1.Base),.dat (vint p1.Free),.dat (vlst (List.map wd p1.Tiers)),.dat (vint p1.Limit),.dat (vint p1.Trial),.dat (zt p1.Asked)]),(2,.box none 3 [.dat (vint s.1)]),(3,.box none 3 [.dat (vint s.2)])]) w6t (λ_=>Z) (enters_of Tryz.func192 (by kernel_rfl) Z) Z h6 H ⟨Z,Z,Z,Z,U⟩ ⟨Z,Z,Z,U⟩ Z Z (λ_=>Z) (λ_=>Z) (λ_ _=>Z) (λ_ _=>Z) (λ_=>Z) (λ_=>Z) (by decide) (by decide) ?_ ?_
 ·rintro A X k7 x8 ⟨c3,c4⟩ q5 hN h9 h10 H hq5;replace H:z3n k7 x8 c3 c4=some q5:=H;unfold z3n at H;refine zo hN Z (zd (yz 4 z0e Z) Z (zd (yy z0k Z Z Z Z) Z ⟨Z,[(5,.ptr 2 0),(6,.ptr 3 0),(8,.ptr 4 0)],[(1,.box (some (A 1)) 103 [.dat (vstr p1.Key),.dat (vstr p1.Product),.dat (vint p1.Base),.dat (vint p1.Free),.dat (vlst (List.map wd p1.Tiers)),.dat (vint p1.Limit),.dat (vint p1.Trial),.dat (zt p1.Asked)]),(2,.box (some (A 2)) 3 [.dat (vint c3)]),(3,.box (some (A 3)) 3 [.dat (vint c4)]),(4,.box none 100 [.dat (vint x8.From),.dat (vint x8.Cents)])],⟨Z,Z,Z,U⟩,⟨Z,Z,Z,Z,U⟩,Z,Z,Z,λX hN=>?_⟩));refine yc (zc hN Z (ze (zk tyS3 Z Z) Z (za (zi xz Z) (ze (zk tyS3 Z Z) Z (za (jp Z Z) (zh _ Z (λh11=>?_) (λh11=>?_)))))))
  ·exact tE h11 H λH=>zc hN Z (ze (zk tyS3 Z Z) Z (ze (zk tyS3 Z Z) Z (za (zi xz Z) (ze (zk tyS3 Z Z) Z (za (yj _ Z Z (.inr (.inl ⟨Z,Z⟩))) (za (yj _ Z Z (.inl ⟨Z,Z⟩)) (za (zi y2b Z) (ze (zk tyS3 Z Z) Z (za (yj _ Z Z (.inr (.inr ⟨Z,Z⟩))) (za (yj _ Z Z (.inl ⟨Z,Z⟩)) (zd (wx tyS3 Z Z Z Z) Z (zo hN Z (za (zi xz Z) (ze (zk tyS3 Z Z) Z (za (yj _ Z Z (.inr (.inl ⟨Z,Z⟩))) (zd (wx tyS3 Z Z Z Z) Z ⟨_,qf H,⟨Z,Z,Z,U⟩⟩))))))))))))))))
  ·exact fE h11 H λH=>zp ⟨_,qf H,⟨Z,Z,Z,U⟩⟩
 ·rintro A X ⟨c3,c4⟩ hN hR H;replace H:z6r c3 c4=some r:=H;unfold z6r at H;refine zc hN Z (ze (zk tyS3 Z Z) Z (gE H λh12 H=>za (Wh Z Z h12.1 h12.2) (qe Z (zm ?_))));cases H;exact⟨.inr Z,[(4,.dat (vint (c4 / 1000)))],[],⟨Z,U⟩,U,Z,Z,⟨.inl Z,U⟩⟩
theorem w5m (v1:zw) (v2:List zj) (v3:List zz) (v4:Bs) (v5:Bs) (v6:Int) (r:List qj) (H:z2y v1 v2 v3 v4 v5 v6=some r):Fn Tryz.prog 82 [vagg (yw v1),vlst (List.map yi v2),vlst (List.map wa v3),vstr v4,vstr v5,vint v6] (yb [vlst (List.map wt r)]):=by
 refine⟨by kernel_rfl,yo (us:=[vlst (List.map wt r)]) Tryz.func82 Z Z Z Z λX hN=>?_⟩;unfold z2y at H;refine zc hN Z (zd (qr 1 Z) Z (qe Z (zc hN Z (ze (yk qh Z Z Z) Z (qd Z (qd Z (qd Z (qd Z (bE H λr7 h8 H=>za (zy (w5l v1 v2 v4 v5 v6 r7 h8) ⟨.inl Z,.inl Z,.inl Z,.inl Z,.inl Z,U⟩) (qd Z (za (qm Z Z) (za (qm Z Z) (za (qm Z Z) (zd (yz 2 jw Z) Z (zd (yz 3 jw Z) Z (zd (yy ql Z Z Z Z) Z (zd (yy ql Z Z Z Z) Z (qe Z (zf (zc hN Z (qd Z (za (wn Z) ?_))))))))))))))))))))));refine zh _ Z (λh9=>?_) (λh9=>?_)
 ·refine tE h9 H λH=>zc hN Z (qe Z (zm ?_));cases H;exact⟨U,.inr ⟨Z,Z⟩,U⟩
 ·refine fE h9 H λH=>zp (zf (wl mixed hN Z Z (za (zi jo Z) (ze (zk jn Z Z) Z (ze (yk qh Z Z Z) Z (za (zi z11 Z) (ze (zk tyS9 Z Z) Z (bE H λr10 h11 H=>za (zy (y0y v1 r7.1.Plan r10 h11) ⟨.inl Z,.inl Z,U⟩) (bE H λx12 h13 H=>za (vx Za (λ_=>Z) Z Z h13) (za (wu jb Z (qa (qi h13).2) Z) (zd (yz 4 uw Z) Z (zd (yy jb Z Z Z Z) Z ⟨Z,?_⟩))))))))))));refine zc hN Z (qe Z (yq (ι:=Bool) (λi=>[(2,.dat (vlst (List.map wa v3))),(3,.dat (vstr v4)),(4,.dat (vstr v5)),(5,.dat (vint v6)),(14,.ptr 3 0),(16,.ptr 4 0),(17,.dat (vnil)),(18,.dat (zt i))]) (λi=>[(3,.box none 114 [.dat (vint r7.2.1.State),.dat (vstr r7.2.1.Plan),.dat (vint r7.2.1.Since),.dat (vint r7.2.1.First)]),(4,.box none 103 [.dat (vstr x12.Key),.dat (vstr x12.Product),.dat (vint x12.Base),.dat (vint x12.Free),.dat (vlst (List.map wd x12.Tiers)),.dat (vint x12.Limit),.dat (vint x12.Trial),.dat (zt x12.Asked)])]) (λi=>z3f v3 v4 v5 v6 r7 x12 i=some r) (λi=>Z) ?_ ?_))
  ·skip;refine zo hN Z (za (zi z12 Z) (ze (zk tyS3 Z Z) Z (za (vi Z Z) (qd Z (wo (j:=3) Z Z (λh14=>?_) (λh14=>?_) Z)))))
   ·exact u1 h14 H λh15 H=>zr Z Z h14 (zg (.dat _) Z) (zr Z Z h14 (zi z10 Z) (wg Z Z h14 (zk tyS3 Z Z) Z (gE H λh16 H=>zr Z Z h14 (Wh Z Z h16.1 h16.2) (zr Z Z h14 (yj _ Z Z (.inr (.inl ⟨Z,Z⟩))) (zr Z Z h14 (zi z8h Z) (wg Z Z h14 (zk tyS3 Z Z) Z (zr Z Z h14 (jp Z Z) (za (wh Z (bTT h15) Z) (qe Z ⟨decide (x12.Trial<=(wr (v6-(r7.1.First / 2592000000)))),H,⟨Z,Z,Z,Z,Z,Z,Z,Z,U⟩,⟨Z,Z,U⟩⟩)))))))))
   ·exact u2 h14 H λh17 H=>zl Z Z h14 (zl Z Z h14 (zl Z Z h14 (zl Z Z h14 (zl Z Z h14 (zl Z Z h14 (zl Z Z h14 (zl Z Z h14 (za (wc Z (bFF h17) Z) (qe Z ⟨false,H,⟨Z,Z,Z,Z,Z,Z,Z,Z,U⟩,⟨Z,Z,U⟩⟩)))))))))
  ·rintro v18 H;replace H:z3f v3 v4 v5 v6 r7 x12 v18=some r:=H;unfold z3f at H;refine Zn 17 5 132 5 Z Z Z (yq (ι:=(List qj)) (λi=>[(2,.dat (vlst (List.map wa v3))),(3,.dat (vstr v4)),(4,.dat (vstr v5)),(5,.dat (vint v6)),(14,.ptr 3 0),(16,.ptr 4 0),(17,.row 5 i.length),(18,.dat (zt v18))]) (λi=>[(3,.box none 114 [.dat (vint r7.2.1.State),.dat (vstr r7.2.1.Plan),.dat (vint r7.2.1.Since),.dat (vint r7.2.1.First)]),(4,.box none 103 [.dat (vstr x12.Key),.dat (vstr x12.Product),.dat (vint x12.Base),.dat (vint x12.Free),.dat (vlst (List.map wd x12.Tiers)),.dat (vint x12.Limit),.dat (vint x12.Trial),.dat (zt x12.Asked)]),(5,.row 132 5 (List.map wt i))]) (λi=>z3e v3 v4 v5 v6 r7 x12 v18 i=some r) (λi=>Z) ?_ ?_)
   ·skip;refine zc hN Z (qd Z (zh _ Z (λh19=>?_) (λh19=>?_)))
    ·refine tE h19 H λH=>zo hN Z (za (zg (.row _ _) Z) (qd Z (qd Z (za (zi z12 Z) (ze (zk tyS3 Z Z) Z (za (ye (u':=vagg (wt (qj.mk v4 v5 [98,97,115,101] 0 x12.Base))) (vj [(0,[vstr v4]),(1,[vstr v5]),(2,[vstr [98,97,115,101]]),(4,[vint x12.Base])] z4g y14 Z ⟨Z,.inl ⟨_,Z,Z,Z⟩,Z,Z,.inl ⟨_,Z,Z,Z⟩,Z,Z,.inl ⟨_,Z,Z,Z⟩,Z,Z,.inl ⟨_,Z,Z,Z⟩,Z,U⟩) Z) (za (ye (u':=vlst (List.map wt [(qj.mk v4 v5 [98,97,115,101] 0 x12.Base)])) (yt [_] xw ⟨Z,.inr Z,Z,U⟩ Z Z) Z) (gE H λh20 H=>zd (vy (C:=wt) (xs:=([]:List qj)) xw (λ_=>Z) Z Z Z ⟨by simp,by first|(simp;done)|simpa using h20⟩ Z) Z ?_))))))));exact za (qo (.row _ _) Z) ⟨(([]:List qj)++([(qj.mk v4 v5 [98,97,115,101] 0 x12.Base)])),H,⟨Z,Z,Z,Z,Z,Z,Z,Z,U⟩,⟨Z,Z,Z,U⟩⟩
    ·exact fE h19 H λH=>zp ⟨([]:List qj),H,⟨Z,Z,Z,Z,Z,Z,Z,Z,U⟩,⟨Z,Z,Z,U⟩⟩
   ·rintro v21 H;replace H:z3e v3 v4 v5 v6 r7 x12 v18 v21=some r:=H;unfold z3e at H;refine zc hN Z (qd Z (qd Z (qd Z (qd Z (bE H λr22 h23 H=>za (zy (w5q v3 v4 v5 v6 r22 h23) ⟨.inl Z,.inl Z,.inl Z,.inl Z,U⟩) (qe Z (yq (ι:=(List qj)) (λi=>[(3,.dat (vstr v4)),(4,.dat (vstr v5)),(5,.dat (vint v6)),(14,.ptr 3 0),(16,.ptr 4 0),(17,.row 5 i.length),(18,.dat (zt v18))]) (λi=>[(3,.box none 114 [.dat (vint r7.2.1.State),.dat (vstr r7.2.1.Plan),.dat (vint r7.2.1.Since),.dat (vint r7.2.1.First)]),(4,.box none 103 [.dat (vstr x12.Key),.dat (vstr x12.Product),.dat (vint x12.Base),.dat (vint x12.Free),.dat (vlst (List.map wd x12.Tiers)),.dat (vint x12.Limit),.dat (vint x12.Trial),.dat (zt x12.Asked)]),(5,.row 132 5 (List.map wt i))]) (λi=>z3d v4 v5 v6 r7 x12 v18 i=some r) (λi=>Z) ?_ ?_)))))))
    ·skip;refine zc hN Z (ze (yk jb Z Z Z) Z (qd Z (bE H λr24 h25 H=>za (zy (w5w x12 r22 r24 h25) ⟨.inl Z,.inl Z,U⟩) (qe Z (zc hN Z (qd Z (za (vi Z Z) (zh _ Z (λh26=>?_) (λh26=>?_)))))))))
     ·refine tE h26 H λH=>zo hN Z (za (zg (.row _ _) Z) (qd Z (qd Z (qd Z (qd Z (za (ye (u':=vagg (wt (qj.mk v4 v5 [99,97,108,108,115] r22 r24))) (vj [(0,[vstr v4]),(1,[vstr v5]),(2,[vstr [99,97,108,108,115]]),(3,[vint r22]),(4,[vint r24])] z4g y14 Z ⟨Z,.inl ⟨_,Z,Z,Z⟩,Z,Z,.inl ⟨_,Z,Z,Z⟩,Z,Z,.inl ⟨_,Z,Z,Z⟩,Z,Z,.inl ⟨_,Z,Z,Z⟩,Z,Z,.inl ⟨_,Z,Z,Z⟩,Z,U⟩) Z) (za (ye (u':=vlst (List.map wt [(qj.mk v4 v5 [99,97,108,108,115] r22 r24)])) (yt [_] xw ⟨Z,.inr Z,Z,U⟩ Z Z) Z) (gE H λh27 H=>zd (vy xw (λ_=>Z) Z Z Z ⟨by simp,by first|(simp;done)|simpa using h27⟩ Z) Z ?_))))))));exact za (qo (.row _ _) Z) ⟨(v21++([(qj.mk v4 v5 [99,97,108,108,115] r22 r24)])),H,⟨Z,Z,Z,Z,Z,Z,Z,U⟩,⟨Z,Z,Z,U⟩⟩
     ·exact fE h26 H λH=>zp ⟨v21,H,⟨Z,Z,Z,Z,Z,Z,Z,U⟩,⟨Z,Z,Z,U⟩⟩
    ·rintro v28 H;replace H:z3d v4 v5 v6 r7 x12 v18 v28=some r:=H;unfold z3d at H;refine yq (ι:=(List qj)) (λi=>[(17,.row 5 i.length)]) (λi=>[(5,.row 132 5 (List.map wt i))]) (λi=>z3c i=some r) (λi=>Z) ?_ ?_
     ·skip;refine zc hN Z (za (zi vu Z) (ze (zk tyS3 Z Z) Z (za (qq Z Z) (qd Z (qp Z Z (λhc=>zg (.dat _) Z) (za (jc Z (λhb=>(cnd (c:=(decide (r7.2.1.State=4))) hb)) Z) (zh _ Z (λh29=>?_) (λh29=>?_))))))))
      ·refine tE h29 H λH=>zc hN Z (za (zi We Z) (ze (zk tyS3 Z Z) Z (qd Z (za (yj _ Z Z (.inr (.inr ⟨Z,Z⟩))) (za (yj _ Z Z (.inr (.inl ⟨Z,Z⟩))) (gE H λh30 H=>za (Wh Z Z h30.1 h30.2) (qe Z (zc hN Z (za (zi z12 Z) (ze (zk tyS3 Z Z) Z (qd Z (za (yj _ Z Z (.inr (.inl ⟨Z,Z⟩))) (za (yj _ Z Z (.inr (.inr ⟨Z,Z⟩))) (gE H λh31 H=>za (Wh Z Z h31.1 h31.2) (qe Z (zc hN Z (qd Z (za (vi Z Z) (zh _ Z (λh32=>?_) (λh32=>?_))))))))))))))))))))
       ·refine tE h32 H λH=>zo hN Z (za (zg (.row _ _) Z) (qd Z (qd Z (qd Z (gE H λh33 H=>za (x3m Z h33) (za (ye (u':=vagg (wt (qj.mk v4 v5 [114,101,102,117,110,100] 0 (-((wr (x12.Base*(wr (29-((wr (r7.2.1.Since-(wr (v6*2592000000)))) / 86400000))))) / 30))))) (vj [(0,[vstr v4]),(1,[vstr v5]),(2,[vstr [114,101,102,117,110,100]]),(4,[vint (-((wr (x12.Base*(wr (29-((wr (r7.2.1.Since-(wr (v6*2592000000)))) / 86400000))))) / 30))])] z4g y14 Z ⟨Z,.inl ⟨_,Z,Z,Z⟩,Z,Z,.inl ⟨_,Z,Z,Z⟩,Z,Z,.inl ⟨_,Z,Z,Z⟩,Z,Z,.inl ⟨_,Z,Z,Z⟩,Z,U⟩) Z) (za (ye (u':=vlst (List.map wt [(qj.mk v4 v5 [114,101,102,117,110,100] 0 (-((wr (x12.Base*(wr (29-((wr (r7.2.1.Since-(wr (v6*2592000000)))) / 86400000))))) / 30)))])) (yt [_] xw ⟨Z,.inr Z,Z,U⟩ Z Z) Z) (gE H λh34 H=>zd (vy xw (λ_=>Z) Z Z Z ⟨by simp,by first|(simp;done)|simpa using h34⟩ Z) Z ?_))))))));exact za (qo (.row _ _) Z) ⟨(v28++([(qj.mk v4 v5 [114,101,102,117,110,100] 0 (-((wr (x12.Base*(wr (29-((wr (r7.2.1.Since-(wr (v6*2592000000)))) / 86400000))))) / 30)))])),H,⟨Z,U⟩,⟨Z,U⟩⟩
       ·exact fE h32 H λH=>zp ⟨v28,H,⟨Z,U⟩,⟨Z,U⟩⟩
      ·exact fE h29 H λH=>zp ⟨v28,H,⟨Z,U⟩,⟨Z,U⟩⟩
     ·rintro v35 H;replace H:z3c v35=some r:=H;unfold z3c at H;refine zc hN Z (za (zg (.row _ _) Z) (za (qo (.row _ _) Z) (zm ?_)));cases H;exact⟨U,ue Z Z,U⟩
theorem w4f (l:Bs) (c r:Int) (H:y8w l c=some r):Fn Tryz.prog 152 [vstr l,vval (.int .u8 c)] (yb [vint r]):=by
 cases H;refine x0e (by kernel_rfl) λM w vs h=>?_;have h1:=y5z (us:=[.string ⟨l.toArray⟩,.int .u8 c]) h;subst h1;refine (Tryz.strings_IndexByte ⟨l.toArray⟩ c w).mono ?_;rintro e w' ⟨rfl,rfl⟩;exact⟨_,Z,Z,Kp.refl _ _⟩
theorem x6a (s1:Bs) (some2:Bs) (r:Bool) (H:z5w s1 some2=some r):Fn Tryz.prog 113 [vstr s1,vstr some2] (yb [zt r]):=by
 refine⟨by kernel_rfl,yo (us:=[zt r]) Tryz.func113 Z Z Z Z λX hN=>?_⟩;unfold z5w at H;refine zc hN Z (qe Z (zf (zc hN Z (qd Z (za (z8n tyU9 Z) (qd Z (yc (gE H λh5 H=>va (λ(k3:Nat) (s:Unit)=>[(0,.dat (vstr s1)),(1,.dat (vstr some2)),(7,.dat (vint (s1.length:Int))),(8,.dat (vint (k3:Int)))]) (λ(k3:Nat) (s:Unit)=>[]) () H ⟨Z,Z,Z,Z,U⟩ U (λ_ _=>Z) ?_ ?_))))))))
 ·rintro⟨⟩ H;replace H:y9v=some r:=H;unfold y9v at H;refine zc hN Z (za (yf Z Z) (zf (zh _ Z (λh=>(lt_t h).elim) (λh=>?_))));refine qg (zc hN Z (qe Z (zm ?_)));cases H;exact⟨U,.inl Z,U⟩
 ·rintro k3 x6 ⟨⟩ q4 h7 h8 H hq4;replace H:y4n some2 k3 x6=some q4:=H;unfold y4n at H;refine zc hN Z (za (yf Z Z) (zf (zh _ Z (λh=>?_) (λh=>(lt_f h7 h).elim))));refine zp (zf (yc (zc hN Z (qd Z (qe Z (zc hN Z (qd Z (qd Z (qd Z (za (x3g tyU9 Z Z h8) (bE H λr9 h10 H=>za (zy (w4f some2 (x6.toNat:Int) r9 h10) ⟨.inl Z,.inl Z,U⟩) (za (yf Z Z) (zh _ Z (λh11=>?_) (λh11=>?_))))))))))))))
  ·refine tE h11 H λH=>zc hN Z (qe Z (zm ?_));replace H:=retl H hq4;cases H;exact⟨U,.inl Z,U⟩
  ·exact fE h11 H λH=>zp (zo hN Z (za (qw Z Z (by omega)) (qd Z ⟨_,qf H,⟨Z,Z,Z,Z,U⟩,U⟩)))
theorem y0z (s1:Bs) (r:Bool) (H:Wr s1=some r):Fn Tryz.prog 74 [vstr s1] (yb [zt r]):=by
 refine⟨by kernel_rfl,yo (us:=[zt r]) Tryz.func74 Z Z Z Z λX hN=>?_⟩;unfold Wr at H;refine zc hN Z (qe Z (yq (ι:=Bool) (λi=>[(2,.dat (zt i))]) (λi=>[]) (λi=>z3p i=some r) (λi=>Z) ?_ ?_))
 ·skip;refine zo hN Z (qd Z (za (z8n tyU9 Z) (bE H λr2 h3 H=>za (zy (Zh (s1.length:Int) 1 40 r2 h3) ⟨.inl Z,.inl Z,.inl Z,U⟩) (qd Z (wo (j:=3) Z Z (λh4=>?_) (λh4=>?_) Z)))))
  ·refine u1 h4 H λh5 H=>zr Z Z h4 (zg (.dat _) Z) (bE H λl6 h7 H=>zr Z Z h4 (x9k tyU9 Z Z Z h7) (bE H λr8 h9 H=>zr Z Z h4 (zy (x6a l6 [97,98,99,100,101,102,103,104,105,106,107,108,109,110,111,112,113,114,115,116,117,118,119,120,121,122] r8 h9) ⟨.inl Z,.inl Z,U⟩) (za (wh Z (bTT h5) Z) (qd Z (wo (j:=8) Z Z (λh10=>?_) (λh10=>?_) Z)))))
   ·exact u1 h10 H λh11 H=>zr Z Z h10 (zg (.dat _) Z) (bE H λr12 h13 H=>zr Z Z h10 (zy (x6a s1 [97,98,99,100,101,102,103,104,105,106,107,108,109,110,111,112,113,114,115,116,117,118,119,120,121,122,48,49,50,51,52,53,54,55,56,57,45,95] r12 h13) ⟨.inl Z,.inl Z,U⟩) (za (wh Z (bTT h11) Z) (qe Z ⟨r12,H,⟨Z,U⟩,U⟩)))
   ·exact u2 h10 H λh14 H=>zl Z Z h10 (zl Z Z h10 (za (wc Z (bFF h14) Z) (qe Z ⟨false,H,⟨Z,U⟩,U⟩)))
  ·exact u2 h4 H λh15 H=>zl Z Z h4 (zl Z Z h4 (zl Z Z h4 (za (wc Z (bFF h15) Z) (qd Z (zl Z Z Z (zl Z Z Z (za (wc Z Z Z) (qe Z ⟨false,H,⟨Z,U⟩,U⟩))))))))
 ·rintro v16 H;replace H:z3p v16=some r:=H;unfold z3p at H;refine zm ?_;cases H;exact⟨U,.inl Z,U⟩
theorem w4g (s1:List yl) (p1:yl->Option Bool) (fv1:Nat) (us1:List V) (hp1:∀ a0 r,p1 a0=some r->Fn Tryz.prog fv1 ([vagg (yr a0)]++us1) (yb [zt r])) (r:Int) (H:y3x s1 p1=some r):Fn Tryz.prog 78 [vlst (List.map yr s1),vfn fv1 us1] (yb [vint r]):=by
 refine⟨by kernel_rfl,yo (us:=[vint r]) Tryz.func78 Z Z Z Z λX hN=>?_⟩;unfold y3x at H;refine zc hN Z (qe Z (zf (zc hN Z (qd Z (za (yx z1y Z) (qd Z (yc (gE H λh4 H=>va (λ(k2:Nat) (s:Unit)=>[(0,.dat (vlst (List.map yr s1))),(1,.dat (vfn fv1 us1)),(7,.dat (vint (s1.length:Int))),(8,.dat (vint (k2:Int)))]) (λ(k2:Nat) (s:Unit)=>[]) () H ⟨Z,Z,Z,Z,U⟩ U (λ_ _=>Z) ?_ ?_))))))))
 ·rintro⟨⟩ H;replace H:y7f=some r:=H;unfold y7f at H;refine zc hN Z (za (yf Z Z) (zf (zh _ Z (λh=>(lt_t h).elim) (λh=>?_))));refine qg (zc hN Z (qe Z (zm ?_)));cases H;exact⟨U,.inl Z,U⟩
 ·rintro k2 x5 ⟨⟩ q3 h6 h7 H hq3;replace H:y7e p1 k2 x5=some q3:=H;unfold y7e at H;refine zc hN Z (za (yf Z Z) (zf (zh _ Z (λh=>?_) (λh=>(lt_f h6 h).elim))));refine zp (zf (yc (zc hN Z (qd Z (qe Z (zc hN Z (qd Z (qd Z (qd Z (za (wm z15 (λ_=>Z) Z Z h7) (za (wu Qx Z (qa h7) Z) (bE H λr8 h9 H=>za (xo (hp1 x5 r8 h9) Z ⟨.inl Z,U⟩) (zh _ Z (λh10=>?_) (λh10=>?_))))))))))))))
  ·refine tE h10 H λH=>zc hN Z (qd Z (qe Z (zm ?_)));replace H:=retl H hq3;cases H;exact⟨U,.inl Z,U⟩
  ·exact fE h10 H λH=>zp (zo hN Z (za (qw Z Z (by omega)) (qd Z ⟨_,qf H,⟨Z,Z,Z,Z,U⟩,U⟩)))
theorem w5v (p1:yl) (c2:Bs) (r:Bool) (H:z50 p1 c2=some r):Fn Tryz.prog 79 [vagg (yr p1),qn [[vstr c2]] 0 0] (yb [zt r]):=by
 refine⟨by kernel_rfl,yo (us:=[zt r]) Tryz.func79 Z Z Z Z λX hN=>?_⟩;unfold z50 at H;refine zc hN Z (zd (qr 1 Z) Z (qe Z (zc hN Z (za (zi Qz Z) (ze (zk tyS9 Z Z) Z (za (wi tyS9 Z Z Z) (za (uz Z Z) (qe Z (zm ?_)))))))));cases H;exact⟨U,.inl Z,U⟩
theorem y9k (c1:zw) (key2:Bs) (r:Int) (H:z2z c1 key2=some r):Fn Tryz.prog 48 [vagg (yw c1),vstr key2] (yb [vint r]):=by
 refine⟨by kernel_rfl,yo (us:=[vint r]) Tryz.func48 Z Z Z Z λX hN=>?_⟩;unfold z2z at H;refine zc hN Z (zd (qr 1 Z) Z (zd (xp 2 Z Z) Z (qe Z (zf (Yk 2 [vstr key2] Z Z (zo hN Z (za (zi z0o Z) (ze (zk z0j Z Z) Z (za (Zy (us:=[_]) ⟨Z,U⟩) (bE H λr3 h4 H=>za (zy (w4g c1.Products (λ(a0:yl)=>z50 a0 key2) 79 [qn [[vstr key2]] 0 0] (λa0 r h=>w5v a0 key2 r h) r3 h4) ⟨.inl Z,.inl Z,U⟩) (qe Z (zm ?_))))))))))));cases H;exact⟨U,.inl Z,U⟩
theorem w5k (v1:zw) (v2:yd) (r:Int) (H:z93 v1 v2=some r):Fn Tryz.prog 95 [vagg (yw v1),vagg (yp v2)] (yb [vint r]):=by
 refine⟨by kernel_rfl,yo (us:=[vint r]) Tryz.func95 Z Z Z Z λX hN=>?_⟩;unfold z93 at H;refine zc hN Z (zd (qr 1 Z) Z (zd (qr 2 Z) Z (qe Z (zf (yc (zc hN Z (ze (yk qh Z Z Z) Z (za (zi z4n Z) (ze (zk tyS9 Z Z) Z (bE H λr3 h4 H=>za (zy (y9k v1 v2.Product r3 h4) ⟨.inl Z,.inl Z,U⟩) (za (yf Z Z) (qe Z (zh _ Z (λh5=>?_) (λh5=>?_))))))))))))))
 ·refine tE h5 H λH=>zc hN Z (qe Z (zm ?_));cases H;exact⟨U,.inl Z,U⟩
 ·refine fE h5 H λH=>yq (ι:=Bool) (λi=>[(3,.ptr 2 0),(13,.dat (zt i))]) (λi=>[(2,.box none 103 [.dat (vstr v2.Key),.dat (vstr v2.Product),.dat (vint v2.Base),.dat (vint v2.Free),.dat (vlst (List.map wd v2.Tiers)),.dat (vint v2.Limit),.dat (vint v2.Trial),.dat (zt v2.Asked)])]) (λi=>z1c v2 i=some r) (λi=>Z) ?_ ?_
  ·skip;refine zo hN Z (za (zi z12 Z) (ze (zk tyS3 Z Z) Z (bE H λr6 h7 H=>za (zy (Zh v2.Base 0 1000000000000 r6 h7) ⟨.inl Z,.inl Z,.inl Z,U⟩) (za (wn Z) (qd Z (wo (j:=4) Z Z (λh8=>?_) (λh8=>?_) Z))))))
   ·exact u3 h8 H λh9 H=>zr Z Z h8 (zi z8i Z) (wg Z Z h8 (zk tyS3 Z Z) Z (bE H λr10 h11 H=>zr Z Z h8 (zy (Zh v2.Free 0 1000000000000 r10 h11) ⟨.inl Z,.inl Z,.inl Z,U⟩) (zr Z Z h8 (wn Z) (za (wc Z (bFF h9) Z) (qe Z ⟨!r10,H,⟨Z,Z,U⟩,⟨Z,U⟩⟩)))))
   ·exact u4 h8 H λh12 H=>zl Z Z h8 (zl Z Z h8 (zl Z Z h8 (zl Z Z h8 (za (wh Z (bTT h12) Z) (qe Z ⟨true,H,⟨Z,Z,U⟩,⟨Z,U⟩⟩)))))
  ·rintro v13 H;replace H:z1c v2 v13=some r:=H;unfold z1c at H;refine zh _ Z (λh14=>?_) (λh14=>?_)
   ·refine tE h14 H λH=>zc hN Z (qe Z (zm ?_));cases H;exact⟨U,.inl Z,U⟩
   ·refine fE h14 H λH=>zc hN Z (za (zi ul Z) (ze (zk ku Z Z) Z (za (yx Qw Z) (za (wy Z Z) (qe Z (zh _ Z (λh15=>?_) (λh15=>?_)))))))
    ·refine tE h15 H λH=>zc hN Z (qe Z (zm ?_));cases H;exact⟨U,.inl Z,U⟩
    ·refine fE h15 H λH=>zp (zf (zc hN Z (za (zi ul Z) (ze (zk ku Z Z) Z (za (yx Qw Z) (qd Z (yc (gE H λh18 H=>va (λ(k16:Nat) (s:Unit)=>[(3,.ptr 2 0),(30,.dat (vlst (List.map wd v2.Tiers))),(31,.dat (vint (v2.Tiers.length:Int))),(32,.dat (vint (k16:Int)))]) (λ(k16:Nat) (s:Unit)=>[(2,.box none 103 [.dat (vstr v2.Key),.dat (vstr v2.Product),.dat (vint v2.Base),.dat (vint v2.Free),.dat (vlst (List.map wd v2.Tiers)),.dat (vint v2.Limit),.dat (vint v2.Trial),.dat (zt v2.Asked)])]) () H ⟨Z,Z,Z,Z,U⟩ ⟨Z,U⟩ (λ_ _=>Z) ?_ ?_))))))))
     ·rintro⟨⟩ H;replace H:y05 v2=some r:=H;unfold y05 at H;refine zc hN Z (za (yf Z Z) (zf (zh _ Z (λh=>(lt_t h).elim) (λh=>?_))));refine qg (zf (yc (yq (ι:=Bool) (λi=>[(3,.ptr 2 0),(64,.dat (zt i))]) (λi=>[(2,.box none 103 [.dat (vstr v2.Key),.dat (vstr v2.Product),.dat (vint v2.Base),.dat (vint v2.Free),.dat (vlst (List.map wd v2.Tiers)),.dat (vint v2.Limit),.dat (vint v2.Trial),.dat (zt v2.Asked)])]) (λi=>z3b v2 i=some r) (λi=>Z) ?_ ?_)))
      ·skip;refine zo hN Z (za (zi ul Z) (ze (zk ku Z Z) Z (za (yx Qw Z) (za (wy Z Z) (qd Z (wo (j:=4) Z Z (λh20=>?_) (λh20=>?_) Z))))))
       ·exact u1 h20 H λh21 H=>zr Z Z h20 (zi ul Z) (wg Z Z h20 (zk ku Z Z) Z (bE H λx22 h23 H=>zr Z Z h20 (wm Wg (λ_=>Z) Z Z h23) (zr Z Z h20 (jd xz Z) (zr Z Z h20 (wi tyS3 Z (qa h23) Z) (zr Z Z h20 (vi Z Z) (za (wh Z (bTT h21) Z) (qe Z ⟨decide (x22.From≠1),H,⟨Z,Z,U⟩,⟨Z,U⟩⟩)))))))
       ·exact u2 h20 H λh24 H=>zl Z Z h20 (zl Z Z h20 (zl Z Z h20 (zl Z Z h20 (zl Z Z h20 (zl Z Z h20 (za (wc Z (bFF h24) Z) (qe Z ⟨false,H,⟨Z,Z,U⟩,⟨Z,U⟩⟩)))))))
      ·rintro v25 H;replace H:z3b v2 v25=some r:=H;unfold z3b at H;refine zh _ Z (λh26=>?_) (λh26=>?_)
       ·refine tE h26 H λH=>zc hN Z (qe Z (zm ?_));cases H;exact⟨U,.inl Z,U⟩
       ·refine fE h26 H λH=>yq (ι:=Bool) (λi=>[(77,.dat (zt i))]) (λi=>[]) (λi=>z6k i=some r) (λi=>Z) ?_ ?_
        ·skip;refine zo hN Z (za (zi y6g Z) (ze (zk tyS3 Z Z) Z (bE H λr27 h28 H=>za (zy (Zh v2.Limit (-1) 1000000000000 r27 h28) ⟨.inl Z,.inl Z,.inl Z,U⟩) (za (wn Z) (qd Z (wo (j:=4) Z Z (λh29=>?_) (λh29=>?_) Z))))))
         ·exact u3 h29 H λh30 H=>zr Z Z h29 (zi z8h Z) (wg Z Z h29 (zk tyS3 Z Z) Z (bE H λr31 h32 H=>zr Z Z h29 (zy (Zh v2.Trial 0 132 r31 h32) ⟨.inl Z,.inl Z,.inl Z,U⟩) (zr Z Z h29 (wn Z) (za (wc Z (bFF h30) Z) (qe Z ⟨!r31,H,⟨Z,U⟩,U⟩)))))
         ·exact u4 h29 H λh33 H=>zl Z Z h29 (zl Z Z h29 (zl Z Z h29 (zl Z Z h29 (za (wh Z (bTT h33) Z) (qe Z ⟨true,H,⟨Z,U⟩,U⟩)))))
        ·rintro v34 H;replace H:z6k v34=some r:=H;unfold z6k at H;refine zh _ Z (λh35=>?_) (λh35=>?_)
         ·refine tE h35 H λH=>zc hN Z (qe Z (zm ?_));cases H;exact⟨U,.inl Z,U⟩
         ·refine fE h35 H λH=>zp (zc hN Z (qe Z (zm ?_)));cases H;exact⟨U,.inl Z,U⟩
     ·rintro k16 x19 ⟨⟩ q17 h36 h37 H hq17;replace H:y03 v2 k16 x19=some q17:=H;unfold y03 at H;refine zc hN Z (za (yf Z Z) (zf (zh _ Z (λh=>?_) (λh=>(lt_f h36 h).elim))));refine zp (zf (yc (zc hN Z (qd Z (za (wm Wg (λ_=>Z) Z Z h37) (za (wu z0k Z (qa h37) Z) (zd (yz 3 z0e Z) Z (qe Z (zd (yy z0k Z Z Z Z) Z (yc (yq (ι:=Bool) (λi=>[(3,.ptr 2 0),(5,.dat (vint (k16:Int))),(6,.ptr 3 0),(30,.dat (vlst (List.map wd v2.Tiers))),(31,.dat (vint (v2.Tiers.length:Int))),(32,.dat (vint (k16:Int))),(37,.dat (zt i))]) (λi=>[(2,.box none 103 [.dat (vstr v2.Key),.dat (vstr v2.Product),.dat (vint v2.Base),.dat (vint v2.Free),.dat (vlst (List.map wd v2.Tiers)),.dat (vint v2.Limit),.dat (vint v2.Trial),.dat (zt v2.Asked)]),(3,.box none 100 [.dat (vint x19.From),.dat (vint x19.Cents)])]) (λi=>z6j v2 k16 x19 i=some q17) (λi=>Z) ?_ ?_)))))))))))
      ·skip;refine zo hN Z (za (zi xz Z) (ze (zk tyS3 Z Z) Z (bE H λr38 h39 H=>za (zy (Zh x19.From 1 1000000000000 r38 h39) ⟨.inl Z,.inl Z,.inl Z,U⟩) (za (wn Z) (qd Z (wo (j:=4) Z Z (λh40=>?_) (λh40=>?_) Z))))))
       ·exact u3 h40 H λh41 H=>zr Z Z h40 (zi y2b Z) (wg Z Z h40 (zk tyS3 Z Z) Z (bE H λr42 h43 H=>zr Z Z h40 (zy (Zh x19.Cents 0 1000000 r42 h43) ⟨.inl Z,.inl Z,.inl Z,U⟩) (zr Z Z h40 (wn Z) (za (wc Z (bFF h41) Z) (qe Z ⟨!r42,H,⟨Z,Z,Z,Z,Z,Z,Z,U⟩,⟨Z,Z,U⟩⟩)))))
       ·exact u4 h40 H λh44 H=>zl Z Z h40 (zl Z Z h40 (zl Z Z h40 (zl Z Z h40 (za (wh Z (bTT h44) Z) (qe Z ⟨true,H,⟨Z,Z,Z,Z,Z,Z,Z,U⟩,⟨Z,Z,U⟩⟩)))))
      ·rintro v45 H;replace H:z6j v2 k16 x19 v45=some q17:=H;unfold z6j at H;refine zh _ Z (λh46=>?_) (λh46=>?_)
       ·refine tE h46 H λH=>zc hN Z (qe Z (zm ?_));replace H:=retl H hq17;cases H;exact⟨U,.inl Z,U⟩
       ·refine fE h46 H λH=>yq (ι:=Bool) (λi=>[(3,.ptr 2 0),(30,.dat (vlst (List.map wd v2.Tiers))),(31,.dat (vint (v2.Tiers.length:Int))),(32,.dat (vint (k16:Int))),(48,.dat (zt i))]) (λi=>[(2,.box none 103 [.dat (vstr v2.Key),.dat (vstr v2.Product),.dat (vint v2.Base),.dat (vint v2.Free),.dat (vlst (List.map wd v2.Tiers)),.dat (vint v2.Limit),.dat (vint v2.Trial),.dat (zt v2.Asked)])]) (λi=>y04 i=some q17) (λi=>Z) ?_ ?_
        ·skip;refine wl mixed hN Z Z (qd Z (za (wy Z Z) (qd Z (wo (j:=2) Z Z (λh47=>?_) (λh47=>?_) Z))))
         ·refine u1 h47 H λh48 H=>zr Z Z h47 (zi xz Z) (wg Z Z h47 (zk tyS3 Z Z) Z (zr Z Z h47 (zi ul Z) (wg Z Z h47 (zk ku Z Z) Z (zr Z Z h47 (zg (.dat _) Z) (zr Z Z h47 (Zc Z Z (by omega)) (bE H λx49 h50 H=>zr Z Z h47 (vx Wg (λ_=>Z) Z Z h50) (zr Z Z h47 (jd xz Z) (zr Z Z h47 (wi tyS3 Z (qa (qi h50).2) Z) (zr Z Z h47 (kf Z Z) (za (wh Z (bTT h48) Z) (qe Z ⟨Z,?_⟩)))))))))));exact⟨decide (x19.From<=x49.From),H,⟨Z,Z,Z,Z,Z,U⟩,⟨Z,U⟩⟩
         ·refine u2 h47 H λh51 H=>zl Z Z h47 (zl Z Z h47 (zl Z Z h47 (zl Z Z h47 (zl Z Z h47 (zl Z Z h47 (zl Z Z h47 (zl Z Z h47 (zl Z Z h47 (zl Z Z h47 (za (wc Z (bFF h51) Z) (qe Z ⟨Z,?_⟩)))))))))));exact⟨false,H,⟨Z,Z,Z,Z,Z,U⟩,⟨Z,U⟩⟩
        ·rintro v52 H;replace H:y04 v52=some q17:=H;unfold y04 at H;refine zh _ Z (λh53=>?_) (λh53=>?_)
         ·refine tE h53 H λH=>zc hN Z (qe Z (zm ?_));replace H:=retl H hq17;cases H;exact⟨U,.inl Z,U⟩
         ·exact fE h53 H λH=>zp (zo hN Z (za (qw Z Z (by omega)) (qd Z ⟨_,qf H,⟨Z,Z,Z,Z,U⟩,⟨Z,U⟩⟩)))
theorem w5j (s1:Bs) (r:Bool) (H:z92 s1=some r):Fn Tryz.prog 136 [vstr s1] (yb [zt r]):=by
 refine⟨by kernel_rfl,yo (us:=[zt r]) Tryz.func136 Z Z Z Z λX hN=>?_⟩;unfold z92 at H;refine zc hN Z (qe Z (zc hN Z (qd Z (bE H λr2 h3 H=>za (zy (x5y s1 [58] r2 h3) ⟨.inl Z,.inl Z,U⟩) (qe Z (zf (zc hN Z (qd Z (za (yx jk Z) (qd Z (yc (gE H λh6 H=>va (λ(k4:Nat) (s:Unit)=>[(3,.dat (vlst (List.map yh r2))),(8,.dat (vlst (List.map yh r2))),(9,.dat (vint (r2.length:Int))),(10,.dat (vint (k4:Int)))]) (λ(k4:Nat) (s:Unit)=>[]) () H ⟨Z,Z,Z,Z,U⟩ U (λ_ _=>Z) ?_ ?_))))))))))))
 ·rintro⟨⟩ H;replace H:y9u r2=some r:=H;unfold y9u at H;refine zc hN Z (za (yf Z Z) (zf (zh _ Z (λh=>(lt_t h).elim) (λh=>?_))));refine qg (zc hN Z (qd Z (za (yx jk Z) (za (kf Z Z) (qe Z (zm ?_))))));cases H;exact⟨U,.inl Z,U⟩
 ·rintro k4 x7 ⟨⟩ q5 h8 h9 H hq5;replace H:y4l r2 k4 x7=some q5:=H;unfold y4l at H;refine zc hN Z (za (yf Z Z) (zf (zh _ Z (λh=>?_) (λh=>(lt_f h8 h).elim))));refine zp (zf (yc (zc hN Z (qd Z (za (wm um (λ_=>Z) Z Z h9) (za (wi tyS9 Z (qa h9) Z) (qe Z (qe Z (zc hN Z (qd Z (bE H λr10 h11 H=>za (zy (y0z x7 r10 h11) ⟨.inl Z,U⟩) (za (wn Z) (qd Z (qp Z Z (λhc=>zg (.dat _) Z) (qp Z Z (λhc=>Zx (cnd (c:=(!r10)) hc) Z) (qp Z Z (λhc=>zg (.dat _) (cnd (c:=(!r10)) hc)) (Zf Z Z (λhc=>zg (.dat _) Z) (Zf Z Z (λhc=>zg (.dat _) Z) (Zf Z Z (λhc=>yx jk (cnd (c:=((!r10) && !(decide (x7≠[42])))) hc)) (Zf Z Z (λhc=>yj _ (cnd (c:=((!r10) && !(decide (x7≠[42])))) hc) Z (.inr (.inl ⟨Z,Z⟩))) (Zf Z Z (λhc=>yf (cnd (c:=((!r10) && !(decide (x7≠[42])))) hc) (cnd (c:=((!r10) && !(decide (x7≠[42])))) hc)) (qp Z Z (λhc=>xn (cnd (c:=(!r10)) hc) Z (λhb=>(cnd (c:=((!r10) && !(decide (x7≠[42])))) (andI hc (notI hb))))) ?_))))))))))))))))))))));refine za (jc Z (λhb=>(cnd (c:=(!r10)) hb)) Z) (zh _ Z (λh12=>?_) (λh12=>?_))
  ·refine tE h12 H λH=>zc hN Z (qe Z (zm ?_));replace H:=retl H hq5;cases H;exact⟨U,.inl Z,U⟩
  ·exact fE h12 H λH=>zp (zo hN Z (za (qw Z Z (by omega)) (qd Z ⟨_,qf H,⟨Z,Z,Z,Z,U⟩,U⟩)))
theorem w5u (l1:List Bs) (r:Int) (H:z97 l1=some r):Fn Tryz.prog 94 [vlst (List.map yh l1)] (yb [vint r]):=by
 refine⟨by kernel_rfl,yo (us:=[vint r]) Tryz.func94 Z Z Z Z λX hN=>?_⟩;unfold z97 at H;refine zc hN Z (qe Z (zf (zc hN Z (qd Z (za (yx jk Z) (za (wy Z Z) (zh _ Z (λh2=>?_) (λh2=>?_))))))))
 ·refine tE h2 H λH=>zc hN Z (qe Z (zm ?_));cases H;exact⟨U,.inl Z,U⟩
 ·refine fE h2 H λH=>zp (zf (zc hN Z (qd Z (za (yx jk Z) (qd Z (yc (gE H λh5 H=>va (λ(k3:Nat) (s:Unit)=>[(8,.dat (vlst (List.map yh l1))),(9,.dat (vint (l1.length:Int))),(10,.dat (vint (k3:Int)))]) (λ(k3:Nat) (s:Unit)=>[]) () H ⟨Z,Z,Z,U⟩ U (λ_ _=>Z) ?_ ?_)))))))
  ·rintro⟨⟩ H;replace H:y9x=some r:=H;unfold y9x at H;refine zc hN Z (za (yf Z Z) (zf (zh _ Z (λh=>(lt_t h).elim) (λh=>?_))));refine qg (zc hN Z (qe Z (zm ?_)));cases H;exact⟨U,.inl Z,U⟩
  ·rintro k3 x6 ⟨⟩ q4 h7 h8 H hq4;replace H:y4r k3 x6=some q4:=H;unfold y4r at H;refine zc hN Z (za (yf Z Z) (zf (zh _ Z (λh=>?_) (λh=>(lt_f h7 h).elim))));refine zp (zf (yc (zc hN Z (za (wm um (λ_=>Z) Z Z h8) (za (wi tyS9 Z (qa h8) Z) (qe Z (zc hN Z (qd Z (bE H λr9 h10 H=>za (zy (w5j x6 r9 h10) ⟨.inl Z,U⟩) (za (wn Z) (zh _ Z (λh11=>?_) (λh11=>?_))))))))))))
   ·refine tE h11 H λH=>zc hN Z (qe Z (zm ?_));replace H:=retl H hq4;cases H;exact⟨U,.inl Z,U⟩
   ·exact fE h11 H λH=>zp (zo hN Z (za (qw Z Z (by omega)) (qd Z ⟨_,qf H,⟨Z,Z,Z,U⟩,U⟩)))
end Go.Proofs.YtbpedjpoikmbjaaGreatDoor
