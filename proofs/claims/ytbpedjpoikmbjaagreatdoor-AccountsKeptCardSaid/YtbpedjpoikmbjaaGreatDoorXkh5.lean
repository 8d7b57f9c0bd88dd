import Derived.Test.YtbpedjpoikmbjaaGreatDoorXkl
namespace Go.Proofs.YtbpedjpoikmbjaaGreatDoor
open Go.RowKit Go.ChangeMaps Go.MapKept
set_option linter.unusedVariables false
set_option maxRecDepth 100000
set_option maxHeartbeats 2000000
theorem w24 {κ τ:Type} {T:MT κ τ} {l:List (κ×τ)}:MpK T (vmpG T l) (l.map (·.1)):=by
 rintro w M v ⟨b,es,cl,h1,h2,h3,h4⟩;exact⟨b,es,cl,l,⟨h1,h2,h3⟩,h4,Z⟩
theorem w6v:y53 Tryz.prog 73 jm:=by
 intro b es cl L M l cap J W0 hE hg hp hc hY h0;have hnt:Tryz.f73.ntmps=14:=Z;refine callsIn_of_wp Tryz.func73 Z U ?_ Z;rw [hnt];obtain⟨hM0,hcp0⟩:=hc _ _ h0;refine wpIn_seq (wpIn_mono (y7x (N:=14) hM0 (by simp) Z [(0,vval (yv l)),(1,qn [[vmpX b es cl]] 0 0)] ⟨by simp [yv,vval],by simpa using hcp0,U⟩ (Q:=λe f own=>e = .normal/\f 0 = .dat (vval (yv l))/\f 5 = .dr 2 (vIt b es cl)/\own 2=some (some (.opq none (itO jm b es cl L none)))) λX hN=>?_) ?_)
 ·exact zo hN Z (za (wi x87 Z Z Z) (zd (y2f 2 xx hE Z) Z ⟨Z,Z,Z,Z⟩))
 rintro e a W1 ⟨X,f,own,g,k,hXw,hXM,rfl,e0,e5,eo⟩;have t0:a.tmps.getD 0 undef=yv l:=by have:=k.fr 0;rw [e0] at this;exact this
 obtain⟨r,o,q1,_,q2,q3⟩:=k.ob 2 _ eo
 have t5:a.tmps.getD 5 undef=PB r:=by
  have:=k.fr 5;rw [e5] at this;obtain⟨r',p1,p2,_⟩:=this;rw [q1] at p1;cases p1;exact p2
 have hrW:W0.heap.size<=r:=by
  rcases k.mine 2 _ r eo q1 with h|h
  ·rw [hXw.2] at h;cases h
  ·rw [hXw.1] at h;exact h
 have hJ1:J L W1:=hg _ _ _ h0 (by have:=k.kp;rw [hXw.1,hXw.2] at this;exact this);have hN1:a.tmps.size=14:=k.n.trans hXM.1;have hD1:a.defers=[]:=k.df.trans hXM.2;refine wpIn_block (wpIn_loop_rounds (L.length+1) ?_);clear k e0 e5 eo q1 hcp0 h0
 suffices key:∀ n q a W o,q.length<=n->a.tmps.size=14->a.defers=[]->a.tmps.getD 0 undef=yv l->a.tmps.getD 5 undef=PB r->W.heap[r]?=some o->itO jm b es cl q none o->J q W->Code.roundsIn Fence.wide 0 Tryz.prog _ _ (n+1) a W from key _ L a W1 o (Nat.le_refl _) hN1 hD1 t0 t5 q2 q3 hJ1
 clear t0 t5 hN1 hD1 hJ1 q2 q3;intro n
 induction n with
 | zero =>
  intro q a W o hq hN hD t0 t5 ho hi hJ;have hq0:q=[]:=List.eq_nil_of_length_eq_zero (by omega);subst hq0;obtain⟨hM,hcp⟩:=hc _ _ hJ;have hrel:=z6h (T:=jm) hM hM0 hcp hrW ho hi hN hD t0 t5;rw [roundsIn_succ];refine wpIn_seq (wpIn_mono ((z1r (P:=Tryz.prog) (X:=itX M W r 14) (Q:=λe f own=>e = .normal/\f 7 = .dat (zt false)) (N:=14) Z Z Z (z1t xx hE Z Z) ?_) _ _ _ hrel) ?_)
  ·rintro⟨_|⟨j,p⟩,hj⟩
   ·exact za (qm Z Z) ⟨Z,Z⟩
   ·simp at hj
  rintro e a' W' ⟨f,own,g,k,rfl,e7⟩;have t7:a'.tmps.getD 7 undef = .bool false:=by have:=k.fr 7;rw [e7] at this;exact this
  have hJ':=hp _ _ _ r o hJ ho (Zi hi) hrW k.kp;exact wpIn_seq (wpIn_cond_false t7 (wpIn_exit ⟨k.df,_,results_none Z _ _ _,⟨_,Z⟩,hJ'⟩))
 | succ n ih =>
  intro q a W o hq hN hD t0 t5 ho hi hJ;obtain⟨hM,hcp⟩:=hc _ _ hJ;have hrel:=z6h (T:=jm) hM hM0 hcp hrW ho hi hN hD t0 t5;rw [roundsIn_succ];refine wpIn_seq (wpIn_mono ((z1r (P:=Tryz.prog) (X:=itX M W r 14) (Q:=λe f own=>e = .normal/\((q=[]/\f 7 = .dat (zt false))∨∃ j p,q[j]?=some p/\f 7 = .dat (zt true)/\f 0 = .dat (vval (yv l))/\f 5 = .dr 1 (vIt b es cl)/\own 1=some (some (.opq (some r) (itO jm b es cl (q.eraseIdx j) (some p))))/\own 3=none)) (N:=14) Z Z Z (z1t xx hE Z Z) ?_) _ _ _ hrel) ?_)
  ·rintro⟨_|⟨j,p⟩,hj⟩
   ·exact za (qm Z Z) ⟨Z,.inl ⟨hj,Z⟩⟩
   ·exact za (qm Z Z) ⟨Z,.inr ⟨j,p,hj,Z,Z,Z,Z,Z⟩⟩
  rintro e a1 Wa ⟨f,own,g,k,rfl,⟨rfl,e7⟩|⟨j,p,hj,e7,e0,e5,eo,e3⟩⟩
  ·have t7:a1.tmps.getD 7 undef = .bool false:=by have:=k.fr 7;rw [e7] at this;exact this
   have hJ':=hp _ _ _ r o hJ ho (Zi hi) hrW k.kp;exact wpIn_seq (wpIn_cond_false t7 (wpIn_exit ⟨k.df,_,results_none Z _ _ _,⟨_,Z⟩,hJ'⟩))
  have t7:a1.tmps.getD 7 undef = .bool true:=by have:=k.fr 7;rw [e7] at this;exact this
  refine wpIn_seq (wpIn_cond_true t7 (wpIn_skip (wpIn_block (wpIn_seq ?_))));refine wpIn_mono ((show AWP Tryz.prog (itX M W r 14) _ (λe f own=>e = .normal/\f 0 = .dat (vval (yv l))/\f 5 = .dr 1 (vIt b es cl)/\own 1=some (some (.opq (some r) (itO jm b es cl (q.eraseIdx j) (some p))))/\f 3 = .dat (jm.kV p.1)) f own from ?_) g a1 Wa k) ?_
  ·exact zo (N:=14) Z Z (ze (z8o xx hE e5) eo (za (qm Z Z) (qe Z ⟨Z,e0,e5,eo,Z⟩)))
  rintro e a2 Wb ⟨f2,own2,g2,k2,rfl,d0,d5,do1,e3b⟩;refine wpIn_seq (wpIn_region ?_);refine opsR (X:=itX M W r 14) Z (n:=2+2) Z (z2e (P:=Tryz.prog) (X:=itX M W r 14) Z [_,_] [_,_] 0 _ _ [] _ a2 Wb Z k2 (za (zg (.dat _) d0) (za (zg (.dat _) e3b) ?_)));intro g3 a3 Wc k3
  have c0:a3.tmps.getD 0 undef=yv l:=by
   have h:=(show RepS g3 Wc _ (f2 0) (a3.tmps.getD 0 undef) from k3.fr 0)
   rw [d0] at h;exact h
  have c10:a3.tmps.getD 10 undef=yv l:=by have:=k3.fr 10;exact this
  have c11:a3.tmps.getD 11 undef=jm.ck p.1:=xx.kin _ _ _ _ (k3.fr 11);have hob:=k3.ob 1 _ do1;obtain⟨r',o3,q1,q0,q2,q3⟩:=hob;have hr':=q0 r Z;subst hr'
  have c5:a3.tmps.getD 5 undef=PB r:=by
   have h:=(show RepS g3 Wc _ (f2 5) (a3.tmps.getD 5 undef) from k3.fr 5)
   rw [d5] at h;obtain⟨r',p1,p2,_⟩:=h;rw [q1] at p1;cases p1;exact p2
  have hN3:a3.tmps.size=14:=k3.n;have hD3:a3.defers=[]:=k3.df;have hJ3:=hp _ _ _ r o hJ ho (Zi hi) hrW k3.kp;have hi3:=y00 _ q3;obtain⟨fn,tm,asg,bdy,hrun,hR⟩:=hY q j p Wc hj hJ3;show wpOpsIn Fence.wide 0 Tryz.prog _ _ [2,3] a3 Wc;refine z7y Z Z Z c10 (by simp [Act.eval,c11]) hrun (hR.mono ?_);rintro e W3 ⟨rfl,hJ4,hkp⟩;refine⟨_,Z,?_⟩;obtain⟨a4,ha4⟩:∃ a4:Act,a4=a3.put (some 12) (.bool true):=⟨_,rfl⟩
  show wpOpsIn Fence.wide 0 Tryz.prog _ _ [3] (a3.put (some 12) (.bool true)) W3;rw [← ha4];have g4:∀ t,a4.tmps.getD t undef=if t=12 then .bool true else a3.tmps.getD t undef:=λt=>by rw [ha4];exact xj hN3 (by decide) t
  have hN4:a4.tmps.size=14:=by rw [ha4];simpa [Act.put] using hN3
  have hD4:a4.defers=[]:=by rw [ha4];exact hD3
  have v12:a4.tmps.getD 12 undef = .bool true:=by rw [g4,if_pos Z]
  rw [wpOpsIn_cons];unfold wpOpIn;refine⟨λ_ _=>U,?_⟩
  have hrun:∀ o:Oper,o.op = .unOp .not 4 (.tmp 12)->(o.semAt Fence.wide.round a4.eval).run Tryz.prog W3 = .ok (.value (.bool false)) W3:=λo ho=>by
   rw [Oper.semAt_eq Fence.wide.round a4.eval o (λc hc=>by rw [ho] at hc;cases hc)];have h1:a4.eval (.tmp 12) = .bool true:=v12;simp only [execOp,ho,h1,Op.unary];rfl
  rw [hrun _ Z,Oper.uponIn_value];have g5:∀ t,(a4.put (some 13) (.bool false)).tmps.getD t undef=if t=13 then .bool false else a4.tmps.getD t undef:=λt=>by rw [show (a4.put (some 13) (.bool false)).tmps=a4.tmps.setIfInBounds 13 (.bool false) from Z,xj hN4 (by decide)]
  have t13:(a4.put (some 13) (.bool false)).tmps.getD 13 undef = .bool false:=by rw [g5,if_pos Z]
  refine wpIn_cond_false t13 (wpIn_skip ?_);have hlen:(q.eraseIdx j).length < q.length:=z7l hj;exact ih (q.eraseIdx j) _ W3 o3 (by omega) (by simpa [Act.put] using hN4) hD4 ((g5 0).trans (by rw [if_neg (by decide),g4,if_neg (by decide)];exact c0)) ((g5 5).trans (by rw [if_neg (by decide),g4,if_neg (by decide)];exact c5)) (hkp r o3 q2 (Zi hi3)) hi3 hJ4
theorem w5e {u:V} (h1:u.one=true):Fn Tryz.prog 39 [u] (yb [vfn 73 [qn [[u]] 0 0]]):=by
 refine⟨by kernel_rfl,yo (us:=[vfn 73 [qn [[u]] 0 0]]) Tryz.func39 Z Z Z Z λX hN=>?_⟩;exact zc hN Z (zd (xp 1 Z h1) Z (qe Z (zf (Yk 1 [u] Z Z (zo hN Z (za (Zy (us:=[_]) ⟨Z,U⟩) (qe Z (zm ⟨U,.inl Z,U⟩))))))))
theorem w5g {u:V} {ks:List Bs} (hu:MpK jm u ks) (hl:ks.length<=1000000000):FnK Tryz.prog 112 [vnil,vfn 73 [qn [[u]] 0 0]] 9 1 (λi:{ p:List Bs // p.Perm ks }=>i.1.map yh):=by
 refine z7i (t:=4) (by kernel_rfl) Tryz.func112 Z Z Z Z λX hN hR=>?_;refine x1a hR (zo hN Z (zd (xp 1 Z Z) Z (qe Z (x1b hR (zo hN Z (qd Z ⟨Z,?_⟩))))));refine y71 1 0 2 9 1 Z Z Z Z (y9b (T:=jm) (s0:=([]:List Bs)) (Iv:=λq s=>(s++q.map (·.1)).Perm ks) hR hN [(2,.ptr 1 0),(6,.dat (vfn 73 [qn [[u]] 0 0]))] [(1,.box none 45 [.row 2 0]),(2,.row 9 1 [])] (λs=>[(1,.box none 45 [.row 2 s.length]),(2,.row 9 1 (s.map yh))]) (λk w M=>xx.kin2 k w M) w6v hu (enters_of Tryz.func73 (by kernel_rfl) Z) Z (λL h=>by rw [List.nil_append,h]) ⟨Z,Z,U⟩ ⟨Z,Z,U⟩ Z Z (λ_=>Z) (λ_=>Z) (λ_ _=>Z) (λ_ _=>Z) (λ_=>Z) (λ_=>Z) (by decide) ?_ ?_)
 ·intro A X p q j s hN hI hj;refine zo hN Z (qe Z ⟨Z,[(2,.ptr 1 0),(5,.dat (jm.kV p.1))],[(1,.box (some (A 1)) 45 [.row 2 s.length]),(2,.row 9 1 (s.map yh))],⟨Z,Z,U⟩,⟨Z,Z,U⟩,Z,Z,Z,λX hN=>?_⟩);refine yc (zo hN Z (ze (zk z0i Z Z) Z (qd Z (za (ye (u':=vlst (List.map yh [p.1])) (yt [[_]] ww ⟨Z,.inl ⟨_,Z,Z,Z⟩,Z,U⟩ Z Z) Z) ?_))));have hps:=hI.length_eq
  have hpl:s.length+1<=1000000000:=by
   have h2:=(List.getElem?_eq_some_iff.1 hj).1;simp only [List.length_append,List.length_map] at hps;omega
  refine zd (vy ww (λ_=>Z) Z Z Z ⟨by simp,by simpa using hpl⟩ Z) Z ?_;refine Ya (Zw z0i Z Z (by rw [List.length_map]) Z) Z Z ?_;exact⟨s++[p.1],y8f hI hj,Z,Z,U⟩
 ·intro A X s hN hR hI;exact zc hN rfl (ze (zk z0i rfl rfl) rfl (za (qo (.row _ _) rfl) (zm ⟨.inr rfl,[(4,.row 2 s.length)],[(2,.row 9 1 (s.map yh))],⟨rfl,trivial⟩,⟨rfl,trivial⟩,rfl,rfl,⟨s,by simpa using hI⟩,2,by rw [List.length_map];rfl,rfl⟩)))
theorem w5f {u:V} {ks:List Bs} (hu:MpK jm u ks) (hl:ks.length<=1000000000):FnK Tryz.prog 72 [vfn 73 [qn [[u]] 0 0]] 9 1 (λi:{ p:List Bs // p.Perm ks }=>i.1.map yh):=by
 refine z7i (t:=2) (by kernel_rfl) Tryz.func72 Z Z Z Z λX hN hR=>?_;refine x1c hR (zc hN Z (qe Z (zf (z35 (ι:={ p:List Bs // p.Perm ks }) hN (os1:=[_]) (os2:=[_]) Z Z Z (qd Z ⟨_,_,_,z4s 1 (w5g hu hl) ⟨.inl Z,.inl Z,U⟩,λq hq=>(by rw [List.mem_singleton.1 hq]),λb k hk=>hk,λi=>?_⟩)))));exact za (qo (.row _ _) Z) (zm ⟨.inr Z,[(2,.row 1 (i.1.map yh).length)],[(1,.row 9 1 (i.1.map yh))],⟨Z,U⟩,⟨Z,U⟩,Z,Z,i,1,Z,Z⟩)

theorem w6p {u:V} {ks:List Bs} (hu:MpK jm u ks) (hl:ks.length<=1000000000) (r:List Bs) (H:srtS ks=some r) :
  Fn Tryz.prog 38 [vfn 73 [qn [[u]] 0 0]] (yb [vlst (r.map yh)]):=by
 refine⟨by kernel_rfl,yo (us:=[vlst (r.map yh)]) Tryz.func38 Z Z Z Z λX hN=>?_⟩;refine zc hN Z (qe Z (zf (z35 (ι:={ p:List Bs // p.Perm ks }) hN (os1:=[_]) (os2:=[_]) Z Z Z (qd Z ⟨_,_,_,z4s 1 (w5f hu hl) ⟨.inl Z,U⟩,λq hq=>(by rw [List.mem_singleton.1 hq]),λb k hk=>hk,λi=>?_⟩))));refine za (qo (.row _ _) Z) ?_;have h0:=y5y H i.1 i.2;have hlen:r.length=i.1.length:=by rw [(x3y h0)];simp
 refine zc hN Z (za (zg (.row _ _) Z) (kh (rn [(0,1)]) [(0,_,_,some _)] [] (y88 i.1 r h0) ⟨Z,U⟩ ⟨.inl (.inl (show Slot.row 1 (i.1.map yh).length=Slot.row 1 i.1.length by rw [List.length_map])),U⟩ ⟨⟨⟨Z,Z,Z⟩,by simp [kg,hlen]⟩,U⟩ Z ?_));exact zc hN Z (za (zg (.row _ _) Z) (za (qo (.row _ _) Z) (zm ⟨U,ue Z (by rw [List.length_map];exact hlen.symm),U⟩)))
noncomputable def z5e (M:List (Bs×Int)) (o:Bs) (out:List Bs):Option (List Bs ⊕ (List Bs×Int)):=
 if o.length<=1000000000 then (if decide (0 < (lkG M o).getD 0) then (if out.length+1<=1000000000 then some (.inl (out++[o])) else none) else some (.inl out)) else none
noncomputable def z9y (c1:zw) (v2:List zn) (v3:List zj) (v4:List zz) (v5:List qc) (v6 v7:Int):Option (List Bs×Int):=
 (z5m c1 v2 v3 v4 v5).bind λe=>if decide (e≠0) then some ([],e) else (z5n v7).bind λe2=>if decide (e2≠0) then some ([],e2) else (xg v6 0 4000).bind λe3=>if e3 then some ([],1) else
  (z2t c1 v2 v3 v4 v5 (wr (v6*86400000)) v7).bind λM=>if M.length<=1000000000 then (srtS (M.map (·.1))).bind λos=>if os.length<=1000000000 then forL (λ_ o out=>z5e M o out) (λout=>some (out,0)) 0 os [] else none else none
theorem w47 (c1:zw) (v2:List zn) (v3:List zj) (v4:List zz) (v5:List qc) (v6 v7:Int) (r:List Bs×Int) (H:z9y c1 v2 v3 v4 v5 v6 v7=some r):Fn Tryz.prog 12 [vagg (yw c1),vlst (List.map yg v2),vlst (List.map yi v3),vlst (List.map wa v4),vlst (List.map vm v5),vint v6,vint v7] (yb [vlst (List.map yh r.1),vint r.2]):=by
 refine⟨by kernel_rfl,yo (us:=[vlst (List.map yh r.1),vint r.2]) Tryz.func12 Z Z Z Z λX hN=>?_⟩;unfold z9y at H;refine bE H λe he H=>zc hN Z (zd (qr 1 Z) Z (qe Z (qe Z (zf (zc hN Z (ze (yk qh Z Z Z) Z (qd Z (qd Z (qd Z (qd Z (za (zy (x53 _ _ _ _ _ e he) ⟨.inl Z,.inl Z,.inl Z,.inl Z,.inl Z,U⟩) (qe Z (zc hN Z (qd Z (za (vi Z Z) (zh _ Z (λh1=>?_) (λh1=>?_)))))))))))))))))
 ·refine tE h1 H λH=>?_;cases H;exact zc hN Z (qd Z (qe Z (qe Z (zm ⟨U,.inr ⟨Z,Z⟩,.inl Z,U⟩))))
 ·refine fE h1 H λH=>zp (zf (zc hN Z (qd Z (bE H λe2 he2 H=>za (zy (x55 _ e2 he2) ⟨.inl Z,U⟩) (qe Z (zc hN Z (qd Z (za (vi Z Z) (zh _ Z (λh2=>?_) (λh2=>?_))))))))))
  ·refine tE h2 H λH=>?_;cases H;exact zc hN Z (qd Z (qe Z (qe Z (zm ⟨U,.inr ⟨Z,Z⟩,.inl Z,U⟩))))
  ·refine fE h2 H λH=>zp (zf (zc hN Z (qd Z (bE H λe3 he3 H=>za (zy (Yh _ _ _ e3 he3) ⟨.inl Z,.inl Z,.inl Z,U⟩) (zh _ Z (λh3=>?_) (λh3=>?_))))))
   ·refine tE h3 H λH=>?_;cases H;exact zc hN Z (qe Z (qe Z (zm ⟨U,.inr ⟨Z,Z⟩,.inl Z,U⟩)))
   ·refine fE h3 H λH=>zp (zc hN Z (ze (yk qh Z Z Z) Z (qd Z (qd Z (qd Z (qd Z (qd Z (za (yj _ Z Z (.inr (.inr ⟨Z,Z⟩))) (qd Z (bE H λM hM H=>gE H λhMl H=>bE H λos hos H=>gE H λhosl H=>za (zy (x54 _ _ _ _ _ _ _ M hM) ⟨.inl Z,.inl Z,.inl Z,.inl Z,.inl Z,.inl Z,.inl Z,U⟩) (qe Z (zc hN Z (qe Z (zf (zc hN Z (qd Z (za (zy (w5e (u:=vmpG jm M) Z) ⟨.inl Z,U⟩) (za (zy (w6p w24 (by rw [List.length_map];exact hMl) os hos) ⟨.inl Z,U⟩) ?_))))))))))))))))));refine za (yx jk Z) (qd Z (yc (Zn 19 3 9 1 Z Z Z (va (λ(k:Nat) (out:List Bs)=>[(18,.dat (vmpG jm M)),(19,.row 3 out.length),(49,.dat (vlst (List.map yh os))),(50,.dat (vint (os.length:Int))),(51,.dat (vint (k:Int)))]) (λ(k:Nat) (out:List Bs)=>[(3,.row 9 1 (List.map yh out))]) [] H ⟨Z,Z,Z,Z,Z,U⟩ ⟨Z,U⟩ (λ_ _=>Z) ?_ ?_))))
    ·rintro out H;cases H;refine zc hN Z (za (yf Z Z) (zf (zh _ Z (λh=>(lt_t h).elim) (λh=>?_))));exact qg (zc hN Z (za (zg (.row _ _) Z) (za (qo (.row _ _) Z) (qe Z (zm ⟨U,ue Z Z,.inl Z,U⟩)))))
    ·rintro k x out q hk0 hx H hq0;replace H:z5e M x out=some q:=H;unfold z5e at H;refine gE H λhk H=>zc hN Z (za (yf Z Z) (zf (zh _ Z (λh=>?_) (λh=>(lt_f hk0 h).elim))));refine zp (zf (yc (zc hN Z (za (wm um (λ_=>Z) Z Z hx) (za (wi tyS9 Z (qa hx) Z) (qe Z (zc hN Z (qd Z (qd Z (za (ye (u':=vint ((lkG M x).getD 0)) (y6q x xx Z Z hk) Z) (za (wy Z Z) (zh _ Z (λh4=>?_) (λh4=>?_)))))))))))))
     ·refine tE h4 H λH=>gE H λhl H=>zo hN Z (za (zg (.row _ _) Z) (qd Z (za (ye (u':=vlst (List.map yh [x])) (yt [[_]] ww ⟨Z,.inl ⟨_,Z,Z,Z⟩,Z,U⟩ Z Z) Z) (zd (vy ww (λ_=>Z) Z Z Z ⟨by simp,by simpa using hl⟩ Z) Z ?_))));exact za (qo (.row _ _) Z) (zo hN Z (za (qw Z Z (by omega)) (qd Z ⟨_,qf H,⟨Z,Z,Z,Z,Z,U⟩,⟨Z,U⟩⟩)))
     ·exact fE h4 H λH=>zp (zo hN Z (za (qw Z Z (by omega)) (qd Z ⟨_,qf H,⟨Z,Z,Z,Z,Z,U⟩,⟨Z,U⟩⟩)))
end Go.Proofs.YtbpedjpoikmbjaaGreatDoor
