import Derived.Test.YtbpedjpoikmbjaaGreatDoorXkh1
import Derived.Test.YtbpedjpoikmbjaaGreatDoorKr
namespace Go.Proofs.YtbpedjpoikmbjaaGreatDoor
open Go.RowKit Go.ChangeMaps Go.MapKept
set_option linter.unusedVariables false
set_option maxRecDepth 100000
set_option maxHeartbeats 2000000
noncomputable abbrev vd:MT Bs (Option Nat):=⟨λx=>vstr x,λx=>.string ⟨x.toArray⟩,λx=>x.length<=1000000000,λx=>vval (ptO x),ptO,none⟩
theorem Zs:TyG Tryz.prog 153 9 167 vd:=
 ⟨by kernel_rfl,Maps.string_keyed (by kernel_rfl),λx hk=>⟨_,WideMaps.keyOf_string_mk (by kernel_rfl) (z2a hk)⟩,λw=>by kernel_rfl,(λa b h=>by simpa using h),(λx w M v h=>h),(λx w M v h=>h),(λx w M=>Z),(λx w M=>Z)⟩
theorem x5f {κ τ:Type} {T:MT κ (Option Nat)} {size:Nat} {C:τ->List V} {l:List (κ×τ)}:MpK T (vmpA T size C l) (l.map (·.1)):=by
 rintro w M v ⟨b,es,cl,f,h1,h2,h3,h4,_⟩;refine⟨b,es,cl,EPb f l,⟨h1,h2,h3⟩,h4,List.ext_getElem? λi=>?_⟩;rw [List.getElem?_map,Qc,Option.map_map,List.getElem?_map];rfl
theorem w6w:y53 Tryz.prog 147 wq:=by
 intro b es cl L M l cap J W0 hE hg hp hc hY h0;have hnt:Tryz.f147.ntmps=14:=Z;refine callsIn_of_wp Tryz.func147 Z U ?_ Z;rw [hnt];obtain⟨hM0,hcp0⟩:=hc _ _ h0;refine wpIn_seq (wpIn_mono (y7x (N:=14) hM0 (by simp) Z [(0,vval (yv l)),(1,qn [[vmpX b es cl]] 0 0)] ⟨by simp [yv,vval],by simpa using hcp0,U⟩ (Q:=λe f own=>e = .normal/\f 0 = .dat (vval (yv l))/\f 5 = .dr 2 (vIt b es cl)/\own 2=some (some (.opq none (itO wq b es cl L none)))) λX hN=>?_) ?_)
 ·exact zo hN Z (za (wi x9a Z Z Z) (zd (y2f 2 ux hE Z) Z ⟨Z,Z,Z,Z⟩))
 rintro e a W1 ⟨X,f,own,g,k,hXw,hXM,rfl,e0,e5,eo⟩;have t0:a.tmps.getD 0 undef=yv l:=by have:=k.fr 0;rw [e0] at this;exact this
 obtain⟨r,o,q1,_,q2,q3⟩:=k.ob 2 _ eo
 have t5:a.tmps.getD 5 undef=PB r:=by
  have:=k.fr 5;rw [e5] at this;obtain⟨r',p1,p2,_⟩:=this;rw [q1] at p1;cases p1;exact p2
 have hrW:W0.heap.size<=r:=by
  rcases k.mine 2 _ r eo q1 with h|h
  ·rw [hXw.2] at h;cases h
  ·rw [hXw.1] at h;exact h
 have hJ1:J L W1:=hg _ _ _ h0 (by have:=k.kp;rw [hXw.1,hXw.2] at this;exact this);have hN1:a.tmps.size=14:=k.n.trans hXM.1;have hD1:a.defers=[]:=k.df.trans hXM.2;refine wpIn_block (wpIn_loop_rounds (L.length+1) ?_);clear k e0 e5 eo q1 hcp0 h0
 suffices key:∀ n q a W o,q.length<=n->a.tmps.size=14->a.defers=[]->a.tmps.getD 0 undef=yv l->a.tmps.getD 5 undef=PB r->W.heap[r]?=some o->itO wq b es cl q none o->J q W->Code.roundsIn Fence.wide 0 Tryz.prog _ _ (n+1) a W from key _ L a W1 o (Nat.le_refl _) hN1 hD1 t0 t5 q2 q3 hJ1
 clear t0 t5 hN1 hD1 hJ1 q2 q3;intro n
 induction n with
 | zero =>
  intro q a W o hq hN hD t0 t5 ho hi hJ;have hq0:q=[]:=List.eq_nil_of_length_eq_zero (by omega);subst hq0;obtain⟨hM,hcp⟩:=hc _ _ hJ;have hrel:=z6h (T:=wq) hM hM0 hcp hrW ho hi hN hD t0 t5;rw [roundsIn_succ];refine wpIn_seq (wpIn_mono ((z1r (P:=Tryz.prog) (X:=itX M W r 14) (Q:=λe f own=>e = .normal/\f 7 = .dat (zt false)) (N:=14) Z Z Z (z1t ux hE Z Z) ?_) _ _ _ hrel) ?_)
  ·rintro⟨_|⟨j,p⟩,hj⟩
   ·exact za (qm Z Z) ⟨Z,Z⟩
   ·simp at hj
  rintro e a' W' ⟨f,own,g,k,rfl,e7⟩;have t7:a'.tmps.getD 7 undef = .bool false:=by have:=k.fr 7;rw [e7] at this;exact this
  have hJ':=hp _ _ _ r o hJ ho (Zi hi) hrW k.kp;exact wpIn_seq (wpIn_cond_false t7 (wpIn_exit ⟨k.df,_,results_none Z _ _ _,⟨_,Z⟩,hJ'⟩))
 | succ n ih =>
  intro q a W o hq hN hD t0 t5 ho hi hJ;obtain⟨hM,hcp⟩:=hc _ _ hJ;have hrel:=z6h (T:=wq) hM hM0 hcp hrW ho hi hN hD t0 t5;rw [roundsIn_succ];refine wpIn_seq (wpIn_mono ((z1r (P:=Tryz.prog) (X:=itX M W r 14) (Q:=λe f own=>e = .normal/\((q=[]/\f 7 = .dat (zt false))∨∃ j p,q[j]?=some p/\f 7 = .dat (zt true)/\f 0 = .dat (vval (yv l))/\f 5 = .dr 1 (vIt b es cl)/\own 1=some (some (.opq (some r) (itO wq b es cl (q.eraseIdx j) (some p))))/\own 3=none)) (N:=14) Z Z Z (z1t ux hE Z Z) ?_) _ _ _ hrel) ?_)
  ·rintro⟨_|⟨j,p⟩,hj⟩
   ·exact za (qm Z Z) ⟨Z,.inl ⟨hj,Z⟩⟩
   ·exact za (qm Z Z) ⟨Z,.inr ⟨j,p,hj,Z,Z,Z,Z,Z⟩⟩
  rintro e a1 Wa ⟨f,own,g,k,rfl,⟨rfl,e7⟩|⟨j,p,hj,e7,e0,e5,eo,e3⟩⟩
  ·have t7:a1.tmps.getD 7 undef = .bool false:=by have:=k.fr 7;rw [e7] at this;exact this
   have hJ':=hp _ _ _ r o hJ ho (Zi hi) hrW k.kp;exact wpIn_seq (wpIn_cond_false t7 (wpIn_exit ⟨k.df,_,results_none Z _ _ _,⟨_,Z⟩,hJ'⟩))
  have t7:a1.tmps.getD 7 undef = .bool true:=by have:=k.fr 7;rw [e7] at this;exact this
  refine wpIn_seq (wpIn_cond_true t7 (wpIn_skip (wpIn_block (wpIn_seq ?_))));refine wpIn_mono ((show AWP Tryz.prog (itX M W r 14) _ (λe f own=>e = .normal/\f 0 = .dat (vval (yv l))/\f 5 = .dr 1 (vIt b es cl)/\own 1=some (some (.opq (some r) (itO wq b es cl (q.eraseIdx j) (some p))))/\(∃ b0,own 3=some (some (.box b0 157 ((we p.1).map .dat))))/\f 3 = .ptr 3 0) f own from ?_) g a1 Wa k) ?_
  ·exact zo (N:=14) Z Z (ze (z8o ux hE e5) eo (za (qm Z Z) (zd (yz 3 z73 Z) (show upl own [] 3=none from e3) (zd (yy kb Z Z Z Z) Z ⟨Z,e0,e5,eo,⟨_,Z⟩,Z⟩))))
  rintro e a2 Wb ⟨f2,own2,g2,k2,rfl,d0,d5,do1,⟨b3,d3⟩,e3b⟩;refine wpIn_seq (wpIn_region ?_);refine opsR (X:=itX M W r 14) Z (n:=2+2) Z (z2e (P:=Tryz.prog) (X:=itX M W r 14) Z [_,_] [_,_] 0 _ _ [] _ a2 Wb Z k2 (za (zg (.dat _) d0) (ze (yk kb e3b Z Z) d3 ?_)));intro g3 a3 Wc k3
  have c0:a3.tmps.getD 0 undef=yv l:=by
   have h:=(show RepS g3 Wc _ (f2 0) (a3.tmps.getD 0 undef) from k3.fr 0)
   rw [d0] at h;exact h
  have c10:a3.tmps.getD 10 undef=yv l:=by have:=k3.fr 10;exact this
  have c11:a3.tmps.getD 11 undef=wq.ck p.1:=ux.kin _ _ _ _ (k3.fr 11);have hob:=k3.ob 1 _ do1;obtain⟨r',o3,q1,q0,q2,q3⟩:=hob;have hr':=q0 r Z;subst hr'
  have c5:a3.tmps.getD 5 undef=PB r:=by
   have h:=(show RepS g3 Wc _ (f2 5) (a3.tmps.getD 5 undef) from k3.fr 5)
   rw [d5] at h;obtain⟨r',p1,p2,_⟩:=h;rw [q1] at p1;cases p1;exact p2
  have hN3:a3.tmps.size=14:=k3.n;have hD3:a3.defers=[]:=k3.df;have hJ3:=hp _ _ _ r o hJ ho (Zi hi) hrW k3.kp;have hi3:=y00 _ q3;obtain⟨fn,tm,asg,bdy,hrun,hR⟩:=hY q j p Wc hj hJ3;show wpOpsIn Fence.wide 0 Tryz.prog _ _ [2,3] a3 Wc;refine z7y Z Z Z c10 (by simp [Act.eval,c11]) hrun (hR.mono ?_);rintro e W3 ⟨rfl,hJ4,hkp⟩;refine⟨_,Z,?_⟩;obtain⟨a4,ha4⟩:∃ a4:Act,a4=a3.put (some 12) (.bool true):=⟨_,rfl⟩
  show wpOpsIn Fence.wide 0 Tryz.prog _ _ [3] (a3.put (some 12) (.bool true)) W3;rw [← ha4];have g4:∀ t,a4.tmps.getD t undef=if t=12 then .bool true else a3.tmps.getD t undef:=λt=>by rw [ha4];exact xj hN3 (by decide) t
  have hN4:a4.tmps.size=14:=by rw [ha4];simpa [Act.put] using hN3
  have hD4:a4.defers=[]:=by rw [ha4];exact hD3
  have v12:a4.tmps.getD 12 undef = .bool true:=by rw [g4,if_pos Z]
  rw [wpOpsIn_cons];unfold wpOpIn;refine⟨λ_ _=>U,?_⟩
  have hrun:∀ o:Oper,o.op = .unOp .not 4 (.tmp 12)->(o.semAt Fence.wide.round a4.eval).run Tryz.prog W3 = .ok (.value (.bool false)) W3:=λo ho=>by
   rw [Oper.semAt_eq Fence.wide.round a4.eval o (λc hc=>by rw [ho] at hc;cases hc)];have h1:a4.eval (.tmp 12) = .bool true:=v12;simp only [execOp,ho,h1,Op.unary];rfl
  rw [hrun _ Z,Oper.uponIn_value];have g5:∀ t,(a4.put (some 13) (.bool false)).tmps.getD t undef=if t=13 then .bool false else a4.tmps.getD t undef:=λt=>by rw [show (a4.put (some 13) (.bool false)).tmps=a4.tmps.setIfInBounds 13 (.bool false) from Z,xj hN4 (by decide)]
  have t13:(a4.put (some 13) (.bool false)).tmps.getD 13 undef = .bool false:=by rw [g5,if_pos Z]
  refine wpIn_cond_false t13 (wpIn_skip ?_);have hlen:(q.eraseIdx j).length < q.length:=z7l hj;exact ih (q.eraseIdx j) _ W3 o3 (by omega) (by simpa [Act.put] using hN4) hD4 ((g5 0).trans (by rw [if_neg (by decide),g4,if_neg (by decide)];exact c0)) ((g5 5).trans (by rw [if_neg (by decide),g4,if_neg (by decide)];exact c5)) (hkp r o3 q2 (Zi hi3)) hi3 hJ4
theorem w6k {u:V} (h1:u.one=true):Fn Tryz.prog 105 [u] (yb [vfn 147 [qn [[u]] 0 0]]):=by
 refine⟨by kernel_rfl,yo (us:=[vfn 147 [qn [[u]] 0 0]]) Tryz.func105 Z Z Z Z λX hN=>?_⟩;exact zc hN Z (zd (xp 1 Z h1) Z (qe Z (zf (Yk 1 [u] Z Z (zo hN Z (za (Zy (us:=[_]) ⟨Z,U⟩) (qe Z (zm ⟨U,.inl Z,U⟩))))))))
theorem w6m {u:V} {ks:List zx} (hu:MpK wq u ks) (hl:ks.length<=1000000000):FnK Tryz.prog 188 [vnil,vfn 147 [qn [[u]] 0 0]] 157 2 (λi:{ p:List zx // p.Perm ks }=>i.1.map we):=by
 refine z7i (t:=4) (by kernel_rfl) Tryz.func188 Z Z Z Z λX hN hR=>?_;refine x1a hR (zo hN Z (zd (xp 1 Z Z) Z (qe Z (x1b hR (zo hN Z (qd Z ⟨Z,?_⟩))))));refine y71 1 0 2 157 2 Z Z Z Z (y9b (T:=wq) (s0:=([]:List zx)) (Iv:=λq s=>(s++q.map (·.1)).Perm ks) hR hN [(2,.ptr 1 0),(6,.dat (vfn 147 [qn [[u]] 0 0]))] [(1,.box none 154 [.row 2 0]),(2,.row 157 2 [])] (λs=>[(1,.box none 154 [.row 2 s.length]),(2,.row 157 2 (s.map we))]) (λk w M=>ux.kin2 k w M) w6w hu (enters_of Tryz.func147 (by kernel_rfl) Z) Z (λL h=>by rw [List.nil_append,h]) ⟨Z,Z,U⟩ ⟨Z,Z,U⟩ Z Z (λ_=>Z) (λ_=>Z) (λ_ _=>Z) (λ_ _=>Z) (λ_=>Z) (λ_=>Z) (by decide) ?_ ?_)
 ·intro A X p q j s hN hI hj;refine zo hN Z (zd (yz 3 z73 Z) Z (zd (yy kb Z Z Z Z) Z ⟨Z,[(2,.ptr 1 0),(5,.ptr 3 0)],[(1,.box (some (A 1)) 154 [.row 2 s.length]),(2,.row 157 2 (s.map we)),(3,.box none 157 ((we p.1).map .dat))],⟨Z,Z,U⟩,⟨Z,Z,Z,U⟩,Z,Z,Z,λX hN=>?_⟩));refine yc (zo hN Z (ze (zk y59 Z Z) Z (ze (yk kb Z Z Z) Z (za (ye (u':=vlst (List.map we [p.1])) (yt [_] x2r ⟨Z,.inr Z,Z,U⟩ Z Z) Z) ?_))));have hps:=hI.length_eq
  have hpl:s.length+1<=1000000000:=by
   have h2:=(List.getElem?_eq_some_iff.1 hj).1;simp only [List.length_append,List.length_map] at hps;omega
  refine zd (vy x2r (λ_=>Z) Z Z Z ⟨by simp,by simpa using hpl⟩ Z) Z ?_;refine Ya (Zw y59 Z Z (by rw [List.length_map]) Z) Z Z ?_;exact⟨s++[p.1],y8f hI hj,Z,Z,U⟩
 ·intro A X s hN hR hI;exact zc hN rfl (ze (zk y59 rfl rfl) rfl (za (qo (.row _ _) rfl) (zm ⟨.inr rfl,[(4,.row 2 s.length)],[(2,.row 157 2 (s.map we))],⟨rfl,trivial⟩,⟨rfl,trivial⟩,rfl,rfl,⟨s,by simpa using hI⟩,2,by rw [List.length_map];rfl,rfl⟩)))
theorem w6l {u:V} {ks:List zx} (hu:MpK wq u ks) (hl:ks.length<=1000000000):FnK Tryz.prog 145 [vfn 147 [qn [[u]] 0 0]] 157 2 (λi:{ p:List zx // p.Perm ks }=>i.1.map we):=by
 refine z7i (t:=2) (by kernel_rfl) Tryz.func145 Z Z Z Z λX hN hR=>?_;refine x1c hR (zc hN Z (qe Z (zf (z35 (ι:={ p:List zx // p.Perm ks }) hN (os1:=[_]) (os2:=[_]) Z Z Z (qd Z ⟨_,_,_,z4s 1 (w6m hu hl) ⟨.inl Z,.inl Z,U⟩,λq hq=>(by rw [List.mem_singleton.1 hq]),λb k hk=>hk,λi=>?_⟩)))));exact za (qo (.row _ _) Z) (zm ⟨.inr Z,[(2,.row 1 (i.1.map we).length)],[(1,.row 157 2 (i.1.map we))],⟨Z,U⟩,⟨Z,U⟩,Z,Z,i,1,Z,Z⟩)
theorem w6u:y53 Tryz.prog 151 vd:=by
 intro b es cl L M l cap J W0 hE hg hp hc hY h0;have hnt:Tryz.f151.ntmps=14:=Z;refine callsIn_of_wp Tryz.func151 Z U ?_ Z;rw [hnt];obtain⟨hM0,hcp0⟩:=hc _ _ h0;refine wpIn_seq (wpIn_mono (y7x (N:=14) hM0 (by simp) Z [(0,vval (yv l)),(1,qn [[vmpX b es cl]] 0 0)] ⟨by simp [yv,vval],by simpa using hcp0,U⟩ (Q:=λe f own=>e = .normal/\f 0 = .dat (vval (yv l))/\f 5 = .dr 2 (vIt b es cl)/\own 2=some (some (.opq none (itO vd b es cl L none)))) λX hN=>?_) ?_)
 ·exact zo hN Z (za (wi x89 Z Z Z) (zd (y2f 2 Zs hE Z) Z ⟨Z,Z,Z,Z⟩))
 rintro e a W1 ⟨X,f,own,g,k,hXw,hXM,rfl,e0,e5,eo⟩;have t0:a.tmps.getD 0 undef=yv l:=by have:=k.fr 0;rw [e0] at this;exact this
 obtain⟨r,o,q1,_,q2,q3⟩:=k.ob 2 _ eo
 have t5:a.tmps.getD 5 undef=PB r:=by
  have:=k.fr 5;rw [e5] at this;obtain⟨r',p1,p2,_⟩:=this;rw [q1] at p1;cases p1;exact p2
 have hrW:W0.heap.size<=r:=by
  rcases k.mine 2 _ r eo q1 with h|h
  ·rw [hXw.2] at h;cases h
  ·rw [hXw.1] at h;exact h
 have hJ1:J L W1:=hg _ _ _ h0 (by have:=k.kp;rw [hXw.1,hXw.2] at this;exact this);have hN1:a.tmps.size=14:=k.n.trans hXM.1;have hD1:a.defers=[]:=k.df.trans hXM.2;refine wpIn_block (wpIn_loop_rounds (L.length+1) ?_);clear k e0 e5 eo q1 hcp0 h0
 suffices key:∀ n q a W o,q.length<=n->a.tmps.size=14->a.defers=[]->a.tmps.getD 0 undef=yv l->a.tmps.getD 5 undef=PB r->W.heap[r]?=some o->itO vd b es cl q none o->J q W->Code.roundsIn Fence.wide 0 Tryz.prog _ _ (n+1) a W from key _ L a W1 o (Nat.le_refl _) hN1 hD1 t0 t5 q2 q3 hJ1
 clear t0 t5 hN1 hD1 hJ1 q2 q3;intro n
 induction n with
 | zero =>
  intro q a W o hq hN hD t0 t5 ho hi hJ;have hq0:q=[]:=List.eq_nil_of_length_eq_zero (by omega);subst hq0;obtain⟨hM,hcp⟩:=hc _ _ hJ;have hrel:=z6h (T:=vd) hM hM0 hcp hrW ho hi hN hD t0 t5;rw [roundsIn_succ];refine wpIn_seq (wpIn_mono ((z1r (P:=Tryz.prog) (X:=itX M W r 14) (Q:=λe f own=>e = .normal/\f 7 = .dat (zt false)) (N:=14) Z Z Z (z1t Zs hE Z Z) ?_) _ _ _ hrel) ?_)
  ·rintro⟨_|⟨j,p⟩,hj⟩
   ·exact za (qm Z Z) ⟨Z,Z⟩
   ·simp at hj
  rintro e a' W' ⟨f,own,g,k,rfl,e7⟩;have t7:a'.tmps.getD 7 undef = .bool false:=by have:=k.fr 7;rw [e7] at this;exact this
  have hJ':=hp _ _ _ r o hJ ho (Zi hi) hrW k.kp;exact wpIn_seq (wpIn_cond_false t7 (wpIn_exit ⟨k.df,_,results_none Z _ _ _,⟨_,Z⟩,hJ'⟩))
 | succ n ih =>
  intro q a W o hq hN hD t0 t5 ho hi hJ;obtain⟨hM,hcp⟩:=hc _ _ hJ;have hrel:=z6h (T:=vd) hM hM0 hcp hrW ho hi hN hD t0 t5;rw [roundsIn_succ];refine wpIn_seq (wpIn_mono ((z1r (P:=Tryz.prog) (X:=itX M W r 14) (Q:=λe f own=>e = .normal/\((q=[]/\f 7 = .dat (zt false))∨∃ j p,q[j]?=some p/\f 7 = .dat (zt true)/\f 0 = .dat (vval (yv l))/\f 5 = .dr 1 (vIt b es cl)/\own 1=some (some (.opq (some r) (itO vd b es cl (q.eraseIdx j) (some p))))/\own 3=none)) (N:=14) Z Z Z (z1t Zs hE Z Z) ?_) _ _ _ hrel) ?_)
  ·rintro⟨_|⟨j,p⟩,hj⟩
   ·exact za (qm Z Z) ⟨Z,.inl ⟨hj,Z⟩⟩
   ·exact za (qm Z Z) ⟨Z,.inr ⟨j,p,hj,Z,Z,Z,Z,Z⟩⟩
  rintro e a1 Wa ⟨f,own,g,k,rfl,⟨rfl,e7⟩|⟨j,p,hj,e7,e0,e5,eo,e3⟩⟩
  ·have t7:a1.tmps.getD 7 undef = .bool false:=by have:=k.fr 7;rw [e7] at this;exact this
   have hJ':=hp _ _ _ r o hJ ho (Zi hi) hrW k.kp;exact wpIn_seq (wpIn_cond_false t7 (wpIn_exit ⟨k.df,_,results_none Z _ _ _,⟨_,Z⟩,hJ'⟩))
  have t7:a1.tmps.getD 7 undef = .bool true:=by have:=k.fr 7;rw [e7] at this;exact this
  refine wpIn_seq (wpIn_cond_true t7 (wpIn_skip (wpIn_block (wpIn_seq ?_))));refine wpIn_mono ((show AWP Tryz.prog (itX M W r 14) _ (λe f own=>e = .normal/\f 0 = .dat (vval (yv l))/\f 5 = .dr 1 (vIt b es cl)/\own 1=some (some (.opq (some r) (itO vd b es cl (q.eraseIdx j) (some p))))/\f 3 = .dat (vd.kV p.1)) f own from ?_) g a1 Wa k) ?_
  ·exact zo (N:=14) Z Z (ze (z8o Zs hE e5) eo (za (qm Z Z) (qe Z ⟨Z,e0,e5,eo,Z⟩)))
  rintro e a2 Wb ⟨f2,own2,g2,k2,rfl,d0,d5,do1,e3b⟩;refine wpIn_seq (wpIn_region ?_);refine opsR (X:=itX M W r 14) Z (n:=2+2) Z (z2e (P:=Tryz.prog) (X:=itX M W r 14) Z [_,_] [_,_] 0 _ _ [] _ a2 Wb Z k2 (za (zg (.dat _) d0) (za (zg (.dat _) e3b) ?_)));intro g3 a3 Wc k3
  have c0:a3.tmps.getD 0 undef=yv l:=by
   have h:=(show RepS g3 Wc _ (f2 0) (a3.tmps.getD 0 undef) from k3.fr 0)
   rw [d0] at h;exact h
  have c10:a3.tmps.getD 10 undef=yv l:=by have:=k3.fr 10;exact this
  have c11:a3.tmps.getD 11 undef=vd.ck p.1:=Zs.kin _ _ _ _ (k3.fr 11);have hob:=k3.ob 1 _ do1;obtain⟨r',o3,q1,q0,q2,q3⟩:=hob;have hr':=q0 r Z;subst hr'
  have c5:a3.tmps.getD 5 undef=PB r:=by
   have h:=(show RepS g3 Wc _ (f2 5) (a3.tmps.getD 5 undef) from k3.fr 5)
   rw [d5] at h;obtain⟨r',p1,p2,_⟩:=h;rw [q1] at p1;cases p1;exact p2
  have hN3:a3.tmps.size=14:=k3.n;have hD3:a3.defers=[]:=k3.df;have hJ3:=hp _ _ _ r o hJ ho (Zi hi) hrW k3.kp;have hi3:=y00 _ q3;obtain⟨fn,tm,asg,bdy,hrun,hR⟩:=hY q j p Wc hj hJ3;show wpOpsIn Fence.wide 0 Tryz.prog _ _ [2,3] a3 Wc;refine z7y Z Z Z c10 (by simp [Act.eval,c11]) hrun (hR.mono ?_);rintro e W3 ⟨rfl,hJ4,hkp⟩;refine⟨_,Z,?_⟩;obtain⟨a4,ha4⟩:∃ a4:Act,a4=a3.put (some 12) (.bool true):=⟨_,rfl⟩
  show wpOpsIn Fence.wide 0 Tryz.prog _ _ [3] (a3.put (some 12) (.bool true)) W3;rw [← ha4];have g4:∀ t,a4.tmps.getD t undef=if t=12 then .bool true else a3.tmps.getD t undef:=λt=>by rw [ha4];exact xj hN3 (by decide) t
  have hN4:a4.tmps.size=14:=by rw [ha4];simpa [Act.put] using hN3
  have hD4:a4.defers=[]:=by rw [ha4];exact hD3
  have v12:a4.tmps.getD 12 undef = .bool true:=by rw [g4,if_pos Z]
  rw [wpOpsIn_cons];unfold wpOpIn;refine⟨λ_ _=>U,?_⟩
  have hrun:∀ o:Oper,o.op = .unOp .not 4 (.tmp 12)->(o.semAt Fence.wide.round a4.eval).run Tryz.prog W3 = .ok (.value (.bool false)) W3:=λo ho=>by
   rw [Oper.semAt_eq Fence.wide.round a4.eval o (λc hc=>by rw [ho] at hc;cases hc)];have h1:a4.eval (.tmp 12) = .bool true:=v12;simp only [execOp,ho,h1,Op.unary];rfl
  rw [hrun _ Z,Oper.uponIn_value];have g5:∀ t,(a4.put (some 13) (.bool false)).tmps.getD t undef=if t=13 then .bool false else a4.tmps.getD t undef:=λt=>by rw [show (a4.put (some 13) (.bool false)).tmps=a4.tmps.setIfInBounds 13 (.bool false) from Z,xj hN4 (by decide)]
  have t13:(a4.put (some 13) (.bool false)).tmps.getD 13 undef = .bool false:=by rw [g5,if_pos Z]
  refine wpIn_cond_false t13 (wpIn_skip ?_);have hlen:(q.eraseIdx j).length < q.length:=z7l hj;exact ih (q.eraseIdx j) _ W3 o3 (by omega) (by simpa [Act.put] using hN4) hD4 ((g5 0).trans (by rw [if_neg (by decide),g4,if_neg (by decide)];exact c0)) ((g5 5).trans (by rw [if_neg (by decide),g4,if_neg (by decide)];exact c5)) (hkp r o3 q2 (Zi hi3)) hi3 hJ4
theorem w5b {u:V} (h1:u.one=true):Fn Tryz.prog 111 [u] (yb [vfn 151 [qn [[u]] 0 0]]):=by
 refine⟨by kernel_rfl,yo (us:=[vfn 151 [qn [[u]] 0 0]]) Tryz.func111 Z Z Z Z λX hN=>?_⟩;exact zc hN Z (zd (xp 1 Z h1) Z (qe Z (zf (Yk 1 [u] Z Z (zo hN Z (za (Zy (us:=[_]) ⟨Z,U⟩) (qe Z (zm ⟨U,.inl Z,U⟩))))))))
theorem w5d {u:V} {ks:List Bs} (hu:MpK vd u ks) (hl:ks.length<=1000000000):FnK Tryz.prog 112 [vnil,vfn 151 [qn [[u]] 0 0]] 9 1 (λi:{ p:List Bs // p.Perm ks }=>i.1.map yh):=by
 refine z7i (t:=4) (by kernel_rfl) Tryz.func112 Z Z Z Z λX hN hR=>?_;refine x1a hR (zo hN Z (zd (xp 1 Z Z) Z (qe Z (x1b hR (zo hN Z (qd Z ⟨Z,?_⟩))))));refine y71 1 0 2 9 1 Z Z Z Z (y9b (T:=vd) (s0:=([]:List Bs)) (Iv:=λq s=>(s++q.map (·.1)).Perm ks) hR hN [(2,.ptr 1 0),(6,.dat (vfn 151 [qn [[u]] 0 0]))] [(1,.box none 45 [.row 2 0]),(2,.row 9 1 [])] (λs=>[(1,.box none 45 [.row 2 s.length]),(2,.row 9 1 (s.map yh))]) (λk w M=>Zs.kin2 k w M) w6u hu (enters_of Tryz.func151 (by kernel_rfl) Z) Z (λL h=>by rw [List.nil_append,h]) ⟨Z,Z,U⟩ ⟨Z,Z,U⟩ Z Z (λ_=>Z) (λ_=>Z) (λ_ _=>Z) (λ_ _=>Z) (λ_=>Z) (λ_=>Z) (by decide) ?_ ?_)
 ·intro A X p q j s hN hI hj;refine zo hN Z (qe Z ⟨Z,[(2,.ptr 1 0),(5,.dat (vd.kV p.1))],[(1,.box (some (A 1)) 45 [.row 2 s.length]),(2,.row 9 1 (s.map yh))],⟨Z,Z,U⟩,⟨Z,Z,U⟩,Z,Z,Z,λX hN=>?_⟩);refine yc (zo hN Z (ze (zk z0i Z Z) Z (qd Z (za (ye (u':=vlst (List.map yh [p.1])) (yt [[_]] ww ⟨Z,.inl ⟨_,Z,Z,Z⟩,Z,U⟩ Z Z) Z) ?_))));have hps:=hI.length_eq
  have hpl:s.length+1<=1000000000:=by
   have h2:=(List.getElem?_eq_some_iff.1 hj).1;simp only [List.length_append,List.length_map] at hps;omega
  refine zd (vy ww (λ_=>Z) Z Z Z ⟨by simp,by simpa using hpl⟩ Z) Z ?_;refine Ya (Zw z0i Z Z (by rw [List.length_map]) Z) Z Z ?_;exact⟨s++[p.1],y8f hI hj,Z,Z,U⟩
 ·intro A X s hN hR hI;exact zc hN rfl (ze (zk z0i rfl rfl) rfl (za (qo (.row _ _) rfl) (zm ⟨.inr rfl,[(4,.row 2 s.length)],[(2,.row 9 1 (s.map yh))],⟨rfl,trivial⟩,⟨rfl,trivial⟩,rfl,rfl,⟨s,by simpa using hI⟩,2,by rw [List.length_map];rfl,rfl⟩)))
theorem w5c {u:V} {ks:List Bs} (hu:MpK vd u ks) (hl:ks.length<=1000000000):FnK Tryz.prog 72 [vfn 151 [qn [[u]] 0 0]] 9 1 (λi:{ p:List Bs // p.Perm ks }=>i.1.map yh):=by
 refine z7i (t:=2) (by kernel_rfl) Tryz.func72 Z Z Z Z λX hN hR=>?_;refine x1c hR (zc hN Z (qe Z (zf (z35 (ι:={ p:List Bs // p.Perm ks }) hN (os1:=[_]) (os2:=[_]) Z Z Z (qd Z ⟨_,_,_,z4s 1 (w5d hu hl) ⟨.inl Z,.inl Z,U⟩,λq hq=>(by rw [List.mem_singleton.1 hq]),λb k hk=>hk,λi=>?_⟩)))));exact za (qo (.row _ _) Z) (zm ⟨.inr Z,[(2,.row 1 (i.1.map yh).length)],[(1,.row 9 1 (i.1.map yh))],⟨Z,U⟩,⟨Z,U⟩,Z,Z,i,1,Z,Z⟩)
theorem x3y {l r:List Bs} (h:Wn l=some r):r=l.mergeSort λx y=>decide (x<=y):=by
 obtain⟨_,h⟩:=gif h;exact (Option.some.inj h).symm

theorem w6q {u:V} {ks:List zx} (hu:MpK wq u ks) (hl:ks.length<=1000000000) (p1:zx->zx->Option Int) (fv1:Nat) (us1:List V) (hp1:∀ a0 a1 r,p1 a0 a1=some r->Fn Tryz.prog fv1 ([vagg (we a0),vagg (we a1)]++us1) (yb [vint r])) (r:List zx) (H:srtA p1 ks=some r) :
  Fn Tryz.prog 104 [vfn 147 [qn [[u]] 0 0],vfn fv1 us1] (yb [vlst (r.map we)]):=by
 refine⟨by kernel_rfl,yo (us:=[vlst (r.map we)]) Tryz.func104 Z Z Z Z λX hN=>?_⟩;refine zc hN Z (qe Z (zf (z35 (ι:={ p:List zx // p.Perm ks }) hN (os1:=[_]) (os2:=[_]) Z Z Z (qd Z ⟨_,_,_,z4s 1 (w6l hu hl) ⟨.inl Z,U⟩,λq hq=>(by rw [List.mem_singleton.1 hq]),λb k hk=>hk,λi=>?_⟩))));refine za (qo (.row _ _) Z) ?_;obtain⟨r0,h0,H0⟩:=bnd (y5y H i.1 i.2);obtain⟨hlen,H0⟩:=gif H0;cases H0;refine zc hN Z (za (zg (.row _ _) Z) (qd Z (kh (rn [(0,1)]) [(0,_,_,some _)] [] (w30 i.1 p1 fv1 us1 hp1 r h0) ⟨Z,U⟩ ⟨.inl (.inl (show Slot.row 1 (i.1.map we).length=Slot.row 1 i.1.length by rw [List.length_map])),.inl (.inl Z),U⟩ ⟨⟨⟨Z,Z,Z⟩,by simp [kg,hlen]⟩,U⟩ Z ?_)));exact zc hN Z (za (zg (.row _ _) Z) (za (qo (.row _ _) Z) (zm ⟨U,ue Z (by rw [List.length_map];exact hlen.symm),U⟩)))
theorem w6o {u:V} {ks:List Bs} (hu:MpK vd u ks) (hl:ks.length<=1000000000) (r:List Bs) (H:srtS ks=some r) :
  Fn Tryz.prog 38 [vfn 151 [qn [[u]] 0 0]] (yb [vlst (r.map yh)]):=by
 refine⟨by kernel_rfl,yo (us:=[vlst (r.map yh)]) Tryz.func38 Z Z Z Z λX hN=>?_⟩;refine zc hN Z (qe Z (zf (z35 (ι:={ p:List Bs // p.Perm ks }) hN (os1:=[_]) (os2:=[_]) Z Z Z (qd Z ⟨_,_,_,z4s 1 (w5c hu hl) ⟨.inl Z,U⟩,λq hq=>(by rw [List.mem_singleton.1 hq]),λb k hk=>hk,λi=>?_⟩))));refine za (qo (.row _ _) Z) ?_;have h0:=y5y H i.1 i.2;have hlen:r.length=i.1.length:=by rw [(x3y h0)];simp
 refine zc hN Z (za (zg (.row _ _) Z) (kh (rn [(0,1)]) [(0,_,_,some _)] [] (y88 i.1 r h0) ⟨Z,U⟩ ⟨.inl (.inl (show Slot.row 1 (i.1.map yh).length=Slot.row 1 i.1.length by rw [List.length_map])),U⟩ ⟨⟨⟨Z,Z,Z⟩,by simp [kg,hlen]⟩,U⟩ Z ?_));exact zc hN Z (za (zg (.row _ _) Z) (za (qo (.row _ _) Z) (zm ⟨U,ue Z (by rw [List.length_map];exact hlen.symm),U⟩)))
end Go.Proofs.YtbpedjpoikmbjaaGreatDoor
