/- Walks along the models. Printed by a program. -/
import Derived.Test.YticadaaoggpenaaGreatDoorZdw5
namespace Go.Proofs.YticadaaoggpenaaGreatDoor
open Go.RowKit
set_option linter.unusedVariables false
set_option maxRecDepth 20000
set_option maxHeartbeats 2000000
theorem y98 (v1:z0g) (v2:(List z0t)) (v3:(List z0e)) (v4:Bs) (v5:Int) (r:((List Bs)×Int)) (H:y0k v1 v2 v3 v4 v5=some r):Fn Tryz.prog 11 [vagg (z1d v1),vlst (List.map z1l v2),vlst (List.map z0w v3),vstr v4,vint v5] (z1x [vlst (List.map z00 r.1),vint r.2]):=by
 refine ⟨by kernel_rfl,z1k (us:=[vlst (List.map z00 r.1),vint r.2]) Tryz.func11 rfl rfl rfl rfl fun X hN => ?_⟩
 unfold y0k at H
 refine z0c ?_
 refine z0b hN rfl ?_
 refine z0f (z2h 1 rfl) rfl ?_
 refine qe rfl ?_
 refine qe rfl ?_
 refine z0c ?_
 refine z0c ?_
 refine z0b hN rfl ?_
 refine z0j (z04 z5d rfl rfl rfl) rfl ?_
 refine qd rfl ?_
 refine qd rfl ?_
 obtain ⟨r6,h7,H⟩:=bnd H
 refine z0a (z0x (y19 v1 v2 v3 r6 h7) ⟨.inl rfl,.inl rfl,.inl rfl,trivial⟩) ?_
 refine qe rfl ?_
 refine z0c ?_
 refine z0b hN rfl ?_
 refine qd rfl ?_
 refine z0a (z6i rfl rfl) ?_
 refine z0i _ rfl (fun h8 => ?_) (fun h8 => ?_)
 ·replace H:=ift h8 H
  refine z0c ?_
  refine z0b hN rfl ?_
  refine qd rfl ?_
  refine qe rfl ?_
  refine qe rfl ?_
  refine z0r ?_
  cases H
  exact ⟨trivial,.inr ⟨rfl,rfl⟩,.inl rfl,trivial⟩
 ·replace H:=iff_ h8 H
  refine z0s ?_
  refine z0c ?_
  refine z0c ?_
  refine z0b hN rfl ?_
  refine qd rfl ?_
  refine qd rfl ?_
  obtain ⟨r9,h10,H⟩:=bnd H
  refine z0a (z0x (y43 v2 v4 r9 h10) ⟨.inl rfl,.inl rfl,trivial⟩) ?_
  refine qd rfl ?_
  refine z0a (z11 rfl rfl) ?_
  refine z0a (z11 rfl rfl) ?_
  refine qe rfl ?_
  refine qe rfl ?_
  refine z0c ?_
  refine z0b hN rfl ?_
  refine qd rfl ?_
  refine z0a (z3r rfl) ?_
  refine z0i _ rfl (fun h11 => ?_) (fun h11 => ?_)
  ·replace H:=ift h11 H
   refine z0c ?_
   refine z0b hN rfl ?_
   refine qe rfl ?_
   refine qe rfl ?_
   refine z0r ?_
   cases H
   exact ⟨trivial,.inr ⟨rfl,rfl⟩,.inl rfl,trivial⟩
  ·replace H:=iff_ h11 H
   refine z0s ?_
   refine z0c ?_
   refine z0c ?_
   refine z0b hN rfl ?_
   refine qd rfl ?_
   obtain ⟨r12,h13,H⟩:=bnd H
   refine z0a (z0x (y18 v5 r12 h13) ⟨.inl rfl,trivial⟩) ?_
   refine qe rfl ?_
   refine z0c ?_
   refine z0b hN rfl ?_
   refine qd rfl ?_
   refine z0a (z6i rfl rfl) ?_
   refine z0i _ rfl (fun h14 => ?_) (fun h14 => ?_)
   ·replace H:=ift h14 H
    refine z0c ?_
    refine z0b hN rfl ?_
    refine qd rfl ?_
    refine qe rfl ?_
    refine qe rfl ?_
    refine z0r ?_
    cases H
    exact ⟨trivial,.inr ⟨rfl,rfl⟩,.inl rfl,trivial⟩
   ·replace H:=iff_ h14 H
    refine z0s ?_
    refine z0c ?_
    refine z0b hN rfl ?_
    refine z0j (z04 z5d rfl rfl rfl) rfl ?_
    refine qd rfl ?_
    refine qd rfl ?_
    obtain ⟨r15,h16,H⟩:=bnd H
    refine z0a (z0x (y3a v1 v3 v5 r15 h16) ⟨.inl rfl,.inl rfl,.inl rfl,trivial⟩) ?_
    refine qd rfl ?_
    refine z0a (z11 rfl rfl) ?_
    refine z0a (z11 rfl rfl) ?_
    refine qe rfl ?_
    refine qe rfl ?_
    refine z0c ?_
    refine z0b hN rfl ?_
    refine qe rfl ?_
    refine z0c ?_
    refine z0c ?_
    refine z0b hN rfl ?_
    refine z0a (z0p y5k rfl) ?_
    refine z0j (z0n x1s rfl rfl) rfl ?_
    refine z0a (z43 x3m rfl) ?_
    refine qd rfl ?_
    refine z0y ?_
    refine z82 18 2 9 1 rfl rfl rfl ?_
    obtain ⟨h20,H⟩:=gif H
    refine z3u (fun (k18:Nat) (s:(List Bs))=>[(3,.dat (vstr v4)),(16,.dat (z9m [[vmpG z14 r15.1.subs_,vmpG z2q r15.1.asks_]] 0 0)),(18,.row 2 s.length),(49,.dat (vlst (List.map z0u v1.Products))),(50,.dat (vint (v1.Products.length:Int))),(51,.dat (vint (k18:Int)))]) (fun (k18:Nat) (s:(List Bs))=>[(2,.row 9 1 (List.map z00 s))]) [] H ⟨rfl,rfl,rfl,rfl,rfl,rfl,trivial⟩ ⟨rfl,trivial⟩ (fun _ _=>rfl) ?_ ?_
    ·rintro l17 H
     replace H:z50 l17=some r:=H
     unfold z50 at H
     refine z0c ?_
     refine z0b hN rfl ?_
     refine z0a (z05 rfl rfl) ?_
     refine z0c ?_
     refine z0i _ rfl (fun h=>(lt_t h).elim) (fun h => ?_)
     refine z1v ?_
     refine z0c ?_
     refine z0c ?_
     refine z0b hN rfl ?_
     refine z0a (z0k (.row _ _) rfl) ?_
     refine z0j (y7j y2p rfl rfl) rfl ?_
     refine z0a (z5n rfl rfl) ?_
     refine z0i _ rfl (fun h22 => ?_) (fun h22 => ?_)
     ·replace H:=ift h22 H
      refine z0c ?_
      refine z0b hN rfl ?_
      refine qe rfl ?_
      refine qe rfl ?_
      refine z0r ?_
      cases H
      exact ⟨trivial,.inr ⟨rfl,rfl⟩,.inl rfl,trivial⟩
     ·replace H:=iff_ h22 H
      refine z0s ?_
      refine z0c ?_
      refine y87 18 2 rfl rfl rfl ?_
      refine z0b hN rfl ?_
      refine qd rfl ?_
      obtain ⟨r23,h24,H⟩:=bnd H
      refine z0a (z0x (y7a l17 r23 h24) ⟨.inl rfl,trivial⟩) ?_
      refine z0a (z11 rfl rfl) ?_
      refine z0a (z11 rfl rfl) ?_
      refine qe rfl ?_
      refine qe rfl ?_
      refine z0r ?_
      cases H
      exact ⟨trivial,.inl rfl,.inl rfl,trivial⟩
    ·rintro k18 x21 l17 q19 h25 h26 H hq19
     replace H:z8l v4 r15 k18 x21 l17=some q19:=H
     unfold z8l at H
     refine z0c ?_
     refine z0b hN rfl ?_
     refine z0a (z05 rfl rfl) ?_
     refine z0c ?_
     refine z0i _ rfl (fun h => ?_) (fun h=>(lt_f h25 h).elim)
     refine z0s ?_
     refine z1a (ι:=(List Bs)) (fun i=>[(3,.dat (vstr v4)),(16,.dat (z9m [[vmpG z14 r15.1.subs_,vmpG z2q r15.1.asks_]] 0 0)),(18,.row 2 i.length),(49,.dat (vlst (List.map z0u v1.Products))),(50,.dat (vint (v1.Products.length:Int))),(51,.dat (vint (k18:Int)))]) (fun i=>[(2,.row 9 1 (List.map z00 i))]) (fun i=>z9r i=some q19) (fun i=>rfl) ?_ ?_
     ·skip
      refine z0y ?_
      refine z0c ?_
      refine z0b hN rfl ?_
      refine z0a (y1g x3q (fun _=>rfl) rfl rfl h26) ?_
      refine z0a (z2s y9f rfl (z29 h26) rfl) ?_
      refine z0f (z1h 3 x0r rfl) rfl ?_
      refine z0f (z02 y9f rfl rfl rfl rfl) rfl ?_
      refine z0c ?_
      refine z0b hN rfl ?_
      refine qd rfl ?_
      refine qd rfl ?_
      refine z0a (z0p y4z rfl) ?_
      refine z0j (z0n tyS9 rfl rfl) rfl ?_
      obtain ⟨r27,h28,H⟩:=bnd H
      refine z0a (z0x (y4k r15.1 v4 x21.Key r27 h28) ⟨.inl rfl,.inl rfl,.inl rfl,trivial⟩) ?_
      refine z0a (x06 z8j tyS3 rfl rfl) ?_
      refine z0a (z12 rfl rfl) ?_
      refine z0i _ rfl (fun h29 => ?_) (fun h29 => ?_)
      ·replace H:=ift h29 H
       refine z0b hN rfl ?_
       refine z0a (z0k (.row _ _) rfl) ?_
       refine z0a (z0p x1t rfl) ?_
       refine z0j (z0n x3o rfl rfl) rfl ?_
       obtain ⟨h30,H⟩:=gif H
       refine z0f (x9c y06 (fun _=>rfl) rfl rfl rfl h30 rfl) rfl ?_
       refine z0a (z1j (.row _ _) rfl) ?_
       exact ⟨(l17++x21.Scopes),H,⟨rfl,rfl,rfl,rfl,rfl,rfl,trivial⟩,⟨rfl,trivial⟩⟩
      ·replace H:=iff_ h29 H
       refine z0s ?_
       exact ⟨l17,H,⟨rfl,rfl,rfl,rfl,rfl,rfl,trivial⟩,⟨rfl,trivial⟩⟩
     ·rintro v31 H
      replace H:z9r v31=some q19:=H
      unfold z9r at H
      refine z0b hN rfl ?_
      refine z0a (z3v rfl rfl (by omega)) ?_
      refine qd rfl ?_
      exact ⟨_,z63 H,⟨rfl,rfl,rfl,rfl,rfl,rfl,trivial⟩,⟨rfl,trivial⟩⟩
theorem y2z (is1:Bool) (e2:Int) (r:(Int)) (H:z7y is1 e2=some r):Fn Tryz.prog 13 [z1e is1,vint e2] (z1x [vint r]):=by
 refine ⟨by kernel_rfl,z1k (us:=[vint r]) Tryz.func13 rfl rfl rfl rfl fun X hN => ?_⟩
 unfold z7y at H
 refine z0c ?_
 refine z0b hN rfl ?_
 refine qe rfl ?_
 refine z0c ?_
 refine z0c ?_
 refine z0b hN rfl ?_
 refine qd rfl ?_
 refine z0i _ rfl (fun h3 => ?_) (fun h3 => ?_)
 ·replace H:=ift h3 H
  refine z0c ?_
  refine z0b hN rfl ?_
  refine qd rfl ?_
  refine qe rfl ?_
  refine z0r ?_
  cases H
  exact ⟨trivial,.inl rfl,trivial⟩
 ·replace H:=iff_ h3 H
  refine z0s ?_
  refine z0c ?_
  refine z0b hN rfl ?_
  refine qe rfl ?_
  refine z0r ?_
  cases H
  exact ⟨trivial,.inl rfl,trivial⟩
theorem z9k (v1:Int) (r:(Int)) (H:z30 v1=some r):Fn Tryz.prog 16 [vint v1] (z1x [vint r]):=by
 refine ⟨by kernel_rfl,z1k (us:=[vint r]) Tryz.func16 rfl rfl rfl rfl fun X hN => ?_⟩
 unfold z30 at H
 refine z0c ?_
 refine z0b hN rfl ?_
 refine qe rfl ?_
 refine z0c ?_
 refine z0b hN rfl ?_
 refine qd rfl ?_
 obtain ⟨r2,h3,H⟩:=bnd H
 refine z0a (z0x (y5d v1 r2 h3) ⟨.inl rfl,trivial⟩) ?_
 refine z0a (z3r rfl) ?_
 obtain ⟨r4,h5,H⟩:=bnd H
 refine z0a (z0x (y2z (!r2) 1 r4 h5) ⟨.inl rfl,.inl rfl,trivial⟩) ?_
 refine qe rfl ?_
 refine z0r ?_
 cases H
 exact ⟨trivial,.inl rfl,trivial⟩
theorem y20 (l1:(List Int)) (r:(Int)) (H:z5z l1=some r):Fn Tryz.prog 12 [vlst (List.map y3c l1)] (z1x [vint r]):=by
 refine ⟨by kernel_rfl,z1k (us:=[vint r]) Tryz.func12 rfl rfl rfl rfl fun X hN => ?_⟩
 unfold z5z at H
 refine z0c ?_
 refine z0b hN rfl ?_
 refine qe rfl ?_
 refine z0c ?_
 refine z0c ?_
 refine z0b hN rfl ?_
 refine qd rfl ?_
 refine z0a (z43 w73 rfl) ?_
 refine qd rfl ?_
 refine z0y ?_
 obtain ⟨h4,H⟩:=gif H
 refine z3u (fun (k2:Nat) (s:Unit)=>[(5,.dat (vlst (List.map y3c l1))),(6,.dat (vint (l1.length:Int))),(7,.dat (vint (k2:Int)))]) (fun (k2:Nat) (s:Unit)=>[]) () H ⟨rfl,rfl,rfl,trivial⟩ trivial (fun _ _=>rfl) ?_ ?_
 ·rintro ⟨⟩ H
  replace H:y1c=some r:=H
  unfold y1c at H
  refine z0c ?_
  refine z0b hN rfl ?_
  refine z0a (z05 rfl rfl) ?_
  refine z0c ?_
  refine z0i _ rfl (fun h=>(lt_t h).elim) (fun h => ?_)
  refine z1v ?_
  refine z0c ?_
  refine z0b hN rfl ?_
  refine qe rfl ?_
  refine z0r ?_
  cases H
  exact ⟨trivial,.inl rfl,trivial⟩
 ·rintro k2 x5 ⟨⟩ q3 h6 h7 H hq3
  replace H:y1b k2 x5=some q3:=H
  unfold y1b at H
  refine z0c ?_
  refine z0b hN rfl ?_
  refine z0a (z05 rfl rfl) ?_
  refine z0c ?_
  refine z0i _ rfl (fun h => ?_) (fun h=>(lt_f h6 h).elim)
  refine z0s ?_
  refine z0c ?_
  refine z0y ?_
  refine z0c ?_
  refine z0b hN rfl ?_
  refine z0a (y1g w79 (fun _=>rfl) rfl rfl h7) ?_
  refine z0a (z1q w74 rfl (z29 h7) rfl) ?_
  refine qe rfl ?_
  refine z0c ?_
  refine z0b hN rfl ?_
  refine qd rfl ?_
  refine z0a (z6i rfl rfl) ?_
  refine z0i _ rfl (fun h8 => ?_) (fun h8 => ?_)
  ·replace H:=ift h8 H
   refine z0c ?_
   refine z0b hN rfl ?_
   refine qd rfl ?_
   refine qe rfl ?_
   refine z0r ?_
   replace H:=retl H hq3
   cases H
   exact ⟨trivial,.inl rfl,trivial⟩
  ·replace H:=iff_ h8 H
   refine z0s ?_
   refine z0b hN rfl ?_
   refine z0a (z3v rfl rfl (by omega)) ?_
   refine qd rfl ?_
   exact ⟨_,z63 H,⟨rfl,rfl,rfl,trivial⟩,trivial⟩
theorem y2f (l:List z0h):Fn Tryz.prog 44 [vlst (List.map z08 l)] (z1x [vfn 77 [z9m [[vlst (List.map z08 l)]] 0 0]]):=by
 refine ⟨by kernel_rfl,z1k (us:=[vfn 77 [z9m [[vlst (List.map z08 l)]] 0 0]]) Tryz.func44 rfl rfl rfl rfl fun X hN => ?_⟩
 refine z0c ?_
 refine z0b hN rfl ?_
 refine z0f (y5p 1 rfl rfl) rfl ?_
 refine qe rfl ?_
 refine z0c ?_
 refine y4y 1 [vlst (List.map z08 l)] rfl rfl ?_
 refine z0b hN rfl ?_
 refine z0a (y5n (us:=[_]) ⟨rfl,trivial⟩) ?_
 refine qe rfl ?_
 refine z0r ?_
 exact ⟨trivial,.inl rfl,trivial⟩
theorem y2b:w4y Tryz.prog 77 4 false:=by
 intro vals M l cap J Jx W hn hvn hk hc hY h0
 have hnt:Tryz.f77.ntmps=19:=rfl
 refine callsIn_of_wp Tryz.func77 rfl trivial ?_ rfl
 rw [hnt]
 obtain ⟨vc,hvc⟩:∃ vc:V,vc=vand (z9m [[vlst (vals.map fun c=>c.map vval)]] 0 0) cap:=⟨_,rfl⟩
 have hwk:Wk vc (z9m [[vlst (vals.map fun c=>c.map vval)]] 0 0):=by rw [hvc]; exact w6w _ _
 have hvm:∀ W',(z9m [[vlst (vals.map fun c=>c.map vval)]] 0 0).p W' M cap→vc.p W' M cap:=fun W' h=>by rw [hvc]; exact ⟨rfl,h⟩
 have hvo:∀ W' M' v,vc.p W' M' v→v=cap:=fun W' M' v h=>by rw [hvc] at h; exact h.1
 obtain ⟨hM,hcp⟩:=hc _ _ h0
 refine wpIn_seq (wpIn_mono (y7o (N:=19) hM ?hN ?hD [(0,vval (yv l)),(1,vc)] ?hr (Q:=fun e f=>e = .normal∧f 0 = .dat (vval (yv l))∧f 1 = .dat vc∧f 3 = .dat (vint ((vals.length:Int) - 1))) fun X hN => ?_) ?_)
 case hN=>simp
 case hD=>rfl
 case hr=>exact ⟨by simp [yv,vval],by simpa using hvm _ hcp,trivial⟩
 ·refine z0b hN rfl ?_
  refine z0a (y9m w6z rfl hwk rfl rfl) ?_
  refine z0a (z43 (C:=fun c:List Value=>c.map vval) w2c rfl) ?_
  refine z0a (y66 rfl rfl (by omega)) ?_
  refine qe rfl ?_
  exact ⟨rfl,rfl,rfl,rfl⟩
 rintro e a W1 ⟨hk1,hN,hD,f,own,g,M',hfr,rfl,e0,e1,e3⟩
 have t0:a.tmps.getD 0 undef=yv l:=by have:=hfr 0; rw [e0] at this; exact this
 have t1:a.tmps.getD 1 undef=cap:=by have:=hfr 1; rw [e1] at this; exact hvo _ _ _ this
 have t3:a.tmps.getD 3 undef = .int .i64 ((vals.length:Int) - 1):=by have:=hfr 3; rw [e3] at this; exact this
 refine wpIn_block (wpIn_loop_rounds (vals.length+1) ?_)
 have hJ1:=hk _ _ _ h0 hk1
 clear hk1 hfr e0 e1 e3 hcp hM h0
 suffices key:∀ m,m≤vals.length→∀ a W,a.tmps.size=19→a.defers=[]→a.tmps.getD 0 undef=yv l→a.tmps.getD 1 undef=cap→a.tmps.getD 3 undef = .int .i64 ((m:Int) - 1)→J m W→Code.roundsIn Fence.wide 0 Tryz.prog _ _ (m+1) a W from key _ (Nat.le_refl _) a W1 hN hD t0 t1 t3 hJ1
 clear t0 t1 t3 hN hD hJ1
 intro m
 induction m with
 | zero =>
  intro _ a W hN hD t0 t1 t3 hJ
  obtain ⟨hM,hcp⟩:=hc _ _ hJ
  rw [roundsIn_succ]
  refine wpIn_seq (wpIn_seq (wpIn_mono (y7o (N:=19) hM hN hD [(3,vint (-1))] ⟨by rw [t3]; rfl,trivial⟩ (Q:=fun e f=>e = .normal∧f 8 = .dat (z1e (decide ((0:Int)≤-1)))) fun X hN => ?_) ?_))
  ·refine z0b hN rfl ?_
   refine qd rfl ?_
   refine z0a (y5o rfl rfl) ?_
   exact ⟨rfl,rfl⟩
  rintro e a' W' ⟨hk1,hN',hD',f,own,g,M',hfr,rfl,e8⟩
  have t8:a'.tmps.getD 8 undef = .bool false:=by have:=hfr 8; rw [e8] at this; exact this
  exact wpIn_cond_false t8 (wpIn_exit ⟨hD',_,results_none rfl _ _ _,⟨_,rfl⟩,.inl (hk _ _ _ hJ hk1)⟩)
 | succ m ih =>
  intro hm a W hN hD t0 t1 t3 hJ
  obtain ⟨hM,hcp⟩:=hc _ _ hJ
  have hm3:(((m+1:Nat):Int) - 1)=(m:Int):=by omega
  rw [hm3] at t3
  rw [roundsIn_succ]
  refine wpIn_seq (wpIn_seq (wpIn_mono (y7o (N:=19) hM hN hD [(0,vval (yv l)),(1,vc),(3,vint (m:Int))] ⟨t0,by rw [t1]; exact hvm _ hcp,by rw [t3]; rfl,trivial⟩ (Q:=fun e f=>e = .normal∧f 0 = .dat (vval (yv l))∧f 1 = .dat vc∧f 3 = .dat (vint (m:Int))∧f 8 = .dat (z1e (decide ((0:Int)≤(m:Int))))) fun X hN => ?_) ?_))
  ·refine z0b hN rfl ?_
   refine qd rfl ?_
   refine z0a (y5o rfl rfl) ?_
   exact ⟨rfl,rfl,rfl,rfl,rfl⟩
  rintro e a1 W1 ⟨hk1,hN1,hD1,f,own,g,M',hfr,rfl,e0,e1,e3,e8⟩
  have u0:a1.tmps.getD 0 undef=yv l:=by have:=hfr 0; rw [e0] at this; exact this
  have u1:a1.tmps.getD 1 undef=cap:=by have:=hfr 1; rw [e1] at this; exact hvo _ _ _ this
  have u3:a1.tmps.getD 3 undef = .int .i64 (m:Int):=by have:=hfr 3; rw [e3] at this; exact this
  have u8:a1.tmps.getD 8 undef = .bool true:=by
   have:=hfr 8; rw [e8,decide_eq_true (by omega)] at this; exact this
  refine wpIn_cond_true u8 (wpIn_skip ?_)
  have hJ1:=hk _ _ _ hJ hk1
  clear hfr e0 e1 e3 e8 hk1 hJ hM hcp t0 t1 t3 hN hD
  obtain ⟨hM1,hcp1⟩:=hc _ _ hJ1
  refine wpIn_seq (wpIn_block (wpIn_seq ?_))
  refine wpIn_region ?_
  obtain ⟨X,hX⟩:∃ X:Ctx,X=⟨fun b=>M b,W1,[],19,none,[]⟩:=⟨_,rfl⟩
  have hrel:Rel X (frs (datL [(0,vval (yv l)),(1,vc),(3,vint (m:Int))])) (fun _=>none) ⟨fun _=>none,fun _ _=>none⟩ a1 W1:=by
   subst hX
   have he:Ext M (Mof ⟨fun b=>M b,W1,[],19,none,[]⟩ ⟨fun _=>none,fun _ _=>none⟩ (fun _=>none)) W1 W1:=⟨Nat.le_refl _,fun _ _ _ _=>rfl,fun b _ hb=>by
    rcases hb with hb | ⟨id,o,ho,_⟩
    ·exact hb
    ·cases ho⟩
   refine ⟨Kp.refl _ _,⟨fun b hb=>⟨hM1.1 b hb,by simp⟩,hM1.2.1,fun b hb=>⟨hM1.2.2 b hb,by simp⟩⟩,hN1,hD1,fun t=>x6i [(0,vval (yv l)),(1,vc),(3,vint (m:Int))] ⟨u0,by rw [u1]; exact vc.keep he (hvm _ hcp1),by rw [u3]; rfl,trivial⟩ t,fun id o ho=>(by cases ho),fun id _ o _ b ho=>(by cases ho),fun id o b ho=>(by cases ho),fun id _=>⟨rfl,fun _=>rfl⟩,fun id e size es h=>(by cases h)⟩
  have hNX:X.N=19:=by rw [hX]
  have hRX:X.R=none:=by rw [hX]
  have hDX:X.D=[]:=by rw [hX]
  have hKX:∀ W',Kp X.S0 X.w0 W'→Kp [] W1 W':=fun W' h=>by rw [hX] at h; exact h
  obtain ⟨el,hel⟩:∃ el,vals[m]?=some el:=⟨_,List.getElem?_eq_getElem (by omega)⟩
  have hell:(el.map vval).length=4:=by rw [List.length_map]; exact hvn el (List.mem_of_getElem? hel)
  have helm:(vals.map fun c=>c.map vval)[m]?=some (el.map vval):=by rw [List.getElem?_map,hel]; rfl
  have helD:vals.getD m []=el:=by rw [List.getD_eq_getElem?_getD,hel]; rfl
  clear hX
  refine opsR hRX (n:=6+2) rfl ?_
  refine x6f (P:=Tryz.prog) (X:=X) (by rw [hNX]; rfl) [_,_,_,_,_,_] [_,_] 0 _ _ [] _ a1 W1 rfl hrel ?_
  refine qd rfl ?_
  refine qd rfl ?_
  refine z0a (y9m w6z rfl hwk rfl rfl) ?_
  refine qd rfl ?_
  refine z0a (x2e (k:=m) w2h rfl rfl (by rw [List.length_map]; omega) (fun c hc=>by
   obtain ⟨c',hc',rfl⟩:=List.mem_map.1 hc
   rw [List.length_map]; exact hvn c' hc')) ?_
  refine z0a (z2s z4h rfl helm hell) ?_
  intro g2 a2 W2 k2
  have v0:a2.tmps.getD 0 undef=yv l:=k2.fr 0
  have v1:a2.tmps.getD 1 undef=cap:=hvo _ _ _ (k2.fr 1)
  have v3:a2.tmps.getD 3 undef = .int .i64 (m:Int):=k2.fr 3
  have v11:a2.tmps.getD 11 undef=yv l:=k2.fr 11
  have v12:a2.tmps.getD 12 undef = .int .i64 (m:Int):=k2.fr 12
  have v16:a2.tmps.getD 16 undef = .agg el.toArray:=by
   obtain ⟨lv,h1,h2,h3⟩:(vagg (el.map vval)).p W2 _ (a2.tmps.getD 16 undef):=k2.fr 16
   rw [h1]
   have:lv=el:=by
    apply List.ext_getElem?
    intro j
    rcases Nat.lt_or_ge j el.length with hj | hj
    ·obtain ⟨y,p1,p2,_⟩:=h3 j (vval el[j]) (by rw [List.getElem?_map,List.getElem?_eq_getElem hj]; rfl)
     rw [p1,List.getElem?_eq_getElem hj]; exact congrArg some p2
    ·rw [List.getElem?_eq_none hj,List.getElem?_eq_none (by rw [List.length_map] at h2; omega)]
   rw [this]
  have hN2:a2.tmps.size=19:=k2.n.trans hNX
  have hD2:a2.defers=[]:=k2.df.trans hDX
  have hJ2:=hk _ _ _ hJ1 (hKX _ k2.kp)
  clear k2 hrel
  obtain ⟨fn,tm,asg,bdy,hrun,hR⟩:=hY m W2 (by omega) hJ2
  rw [helD] at hrun
  change (Instr.yield l #[.int .i64 (m:Int),.agg el.toArray]).run Tryz.prog W2=_ at hrun
  rw [hRX]
  show wpOpsIn Fence.wide 0 Tryz.prog _ _ [6,7] a2 W2
  refine x4x rfl rfl rfl v11 (by simp [Act.eval,v12,v16]) hrun (hR.mono ?_)
  rintro e W3 (⟨rfl,hJ3⟩ | ⟨rfl,hJ3⟩)
  ·obtain ⟨hM3,hcp3⟩:=hc _ _ hJ3
   refine ⟨_,rfl,?_⟩
   obtain ⟨a3,ha3⟩:∃ a3:Act,a3=a2.put (some 17) (.bool true):=⟨_,rfl⟩
   have hN3:a3.tmps.size=19:=by rw [ha3]; simpa [Act.put] using hN2
   have hD3:a3.defers=[]:=by rw [ha3]; exact hD2
   have g3:∀ t,a3.tmps.getD t undef=if t=17 then .bool true else a2.tmps.getD t undef:=fun t=>by rw [ha3]; exact x0q hN2 (by decide) t
   show wpOpsIn Fence.wide 0 Tryz.prog _ _ (List.range' 7 1) (a2.put (some 17) (.bool true)) W3
   rw [← ha3]
   refine opsT (N:=19) (i:=7) (os:=[_]) hM3 hN3 hD3 [(0,vval (yv l)),(1,vc),(3,vint (m:Int)),(17,z1e true)] ⟨?_,?_,?_,?_,trivial⟩ (Q':=fun f=>f 0 = .dat (vval (yv l))∧f 1 = .dat vc∧f 3 = .dat (vint (m:Int))∧f 18 = .dat (z1e (!true))) rfl rfl (fun _ _ => ?_) ?_
   ·show _=_
    rw [g3,if_neg (by decide)]; exact v0
   ·rw [g3,if_neg (by decide),v1]; exact hvm _ hcp3
   ·show _=_
    rw [g3,if_neg (by decide)]; exact v3
   ·show _=_
    rw [g3,if_pos rfl]
   ·refine z0a (z3r rfl) ?_
    exact ⟨rfl,rfl,rfl,rfl⟩
   intro a4 W4 hk4 hN4 hD4 f g M' hfr ⟨e0,e1,e3,e18⟩
   have z0:a4.tmps.getD 0 undef=yv l:=by have:=hfr 0; rw [e0] at this; exact this
   have z1:a4.tmps.getD 1 undef=cap:=by have:=hfr 1; rw [e1] at this; exact hvo _ _ _ this
   have z3:a4.tmps.getD 3 undef = .int .i64 (m:Int):=by have:=hfr 3; rw [e3] at this; exact this
   have z18:a4.tmps.getD 18 undef = .bool false:=by have:=hfr 18; rw [e18] at this; exact this
   refine wpIn_cond_false z18 (wpIn_skip ?_)
   have hJ4:=hk _ _ _ hJ3 hk4
   obtain ⟨hM4,hcp4⟩:=hc _ _ hJ4
   refine wpIn_mono (y7o (N:=19) hM4 hN4 hD4 [(0,vval (yv l)),(1,vc),(3,vint (m:Int))] ⟨z0,by rw [z1]; exact hvm _ hcp4,by rw [z3]; rfl,trivial⟩ (Q:=fun e f=>e = .normal∧f 0 = .dat (vval (yv l))∧f 1 = .dat vc∧f 3 = .dat (vint ((m:Int) - 1))) fun X hN => ?_) ?_
   ·refine z0b hN rfl ?_
    refine qd rfl ?_
    refine z0a (y66 rfl rfl (by omega)) ?_
    refine qe rfl ?_
    exact ⟨rfl,rfl,rfl,rfl⟩
   rintro e a5 W5 ⟨hk5,hN5,hD5,f5,own5,g5,M5,hfr5,rfl,e0,e1,e3⟩
   exact ih (by omega) a5 W5 hN5 hD5 (by have:=hfr5 0; rw [e0] at this; exact this) (by have:=hfr5 1; rw [e1] at this; exact hvo _ _ _ this) (by have:=hfr5 3; rw [e3] at this; exact this) (hk _ _ _ hJ4 hk5)
  ·refine ⟨_,rfl,?_⟩
   obtain ⟨a3,ha3⟩:∃ a3:Act,a3=a2.put (some 17) (.bool false):=⟨_,rfl⟩
   show wpOpsIn Fence.wide 0 Tryz.prog _ _ [7] (a2.put (some 17) (.bool false)) W3
   rw [← ha3]
   have g3:∀ t,a3.tmps.getD t undef=if t=17 then .bool false else a2.tmps.getD t undef:=fun t=>by rw [ha3]; exact x0q hN2 (by decide) t
   have hN3:a3.tmps.size=19:=by rw [ha3]; simpa [Act.put] using hN2
   have hD3:a3.defers=[]:=by rw [ha3]; exact hD2
   have v17:a3.tmps.getD 17 undef = .bool false:=by rw [g3,if_pos rfl]
   rw [wpOpsIn_cons]
   unfold wpOpIn
   refine ⟨fun _ _=>trivial,?_⟩
   have hrun:∀ o:Oper,o.op = .unOp .not 4 (.tmp 17)→(o.semAt Fence.wide.round a3.eval).run Tryz.prog W3 = .ok (.value (.bool true)) W3:=fun o ho=>by
    rw [Oper.semAt_eq Fence.wide.round a3.eval o (fun c hc=>by rw [ho] at hc; cases hc)]
    have h1:a3.eval (.tmp 17) = .bool false:=v17
    simp only [execOp,ho,h1,Op.unary]
    rfl
   rw [hrun _ rfl,Oper.uponIn_value]
   have t18:(a3.put (some 18) (.bool true)).tmps.getD 18 undef = .bool true:=by rw [show (a3.put (some 18) (.bool true)).tmps=a3.tmps.setIfInBounds 18 (.bool true) from rfl,x0q hN3 (by decide),if_pos rfl]
   exact wpIn_cond_true t18 (wpIn_ret ⟨hD3,_,results_none rfl _ _ _,⟨_,rfl⟩,.inr hJ3⟩)

theorem y3w (c1:z0g) (l2:(List z0e)) (app3:Bs) (product4:Bs) (v5:Int) (r:(z0h)) (H:z5c c1 l2 app3 product4 v5=some r):Fn Tryz.prog 17 [vagg (z1d c1),vlst (List.map z0w l2),vstr app3,vstr product4,vint v5] (z1x [vagg (z08 r)]):=by
 refine ⟨by kernel_rfl,w3b (us:=[vagg (z08 r)]) Tryz.func17 rfl rfl rfl rfl fun X hN hR => ?_⟩
 unfold z5c at H
 refine x7c hR ?_
 refine z0b hN rfl ?_
 refine z0f (z2h 1 rfl) rfl ?_
 refine z0f (y5p 2 rfl rfl) rfl ?_
 refine z0f (z1h 3 y3h rfl) rfl ?_
 refine x7c hR ?_
 refine z0b hN rfl ?_
 refine z0j (z04 z5d rfl rfl rfl) rfl ?_
 refine qd rfl ?_
 refine qd rfl ?_
 refine qd rfl ?_
 obtain ⟨r6,h7,H⟩:=bnd H
 refine z0a (z0x (y8e c1 l2 app3 product4 r6 h7) ⟨.inl rfl,.inl rfl,.inl rfl,.inl rfl,trivial⟩) ?_
 refine qd rfl ?_
 refine z0a (z11 rfl rfl) ?_
 refine z0a (z11 rfl rfl) ?_
 refine qe rfl ?_
 refine qe rfl ?_
 refine x8v hR ?_
 refine z0b hN rfl ?_
 refine qd rfl ?_
 refine z0a (z0x (y2f r6.1) ⟨.inl rfl,trivial⟩) ?_
 refine ⟨rfl,?_⟩
 obtain ⟨h9,H⟩:=gif H
 refine w7a (s0:=()) hR hN [(9,.ptr 2 0),(10,.ptr 3 0),(24,.dat (vfn 77 [z9m [[vlst (List.map z08 r6.1)]] 0 0]))] [(1,.box none 29 [.dat (vlst (List.map z0u c1.Products)),.dat (vlst (List.map z0z c1.Plans))]),(2,.box none 3 [.dat (vint v5)]),(3,.box none 39 [.dat (vint 0),.dat (vstr []),.dat (vint 0),.dat (vint 0)])] (fun (s:Unit)=>[(1,.box none 29 [.dat (vlst (List.map z0u c1.Products)),.dat (vlst (List.map z0z c1.Plans))]),(2,.box none 3 [.dat (vint v5)]),(3,.box none 39 [.dat (vint 0),.dat (vstr []),.dat (vint 0),.dat (vint 0)])]) y2b (fun _=>rfl) (enters_of Tryz.func77 (by kernel_rfl) rfl) rfl h9 H ⟨rfl,rfl,rfl,trivial⟩ ⟨rfl,rfl,rfl,trivial⟩ rfl rfl (fun _=>rfl) (fun _=>rfl) (fun _ _=>rfl) (fun _ _=>rfl) (fun _=>rfl) (fun _=>rfl) (by decide) (by decide) ?_ ?_
 ·rintro A X k10 x11 ⟨⟩ q8 hN h12 h13 H hq8
  replace H:y0t v5 k10 x11=some q8:=H
  unfold y0t at H
  refine z0b hN rfl ?_
  refine z0f (z1h 4 y3h rfl) rfl ?_
  refine z0f (z02 z4h rfl rfl rfl rfl) rfl ?_
  refine ⟨rfl,[(9,.ptr 2 0),(10,.ptr 3 0),(14,.ptr 4 0)],[(1,.box (some (A 1)) 29 [.dat (vlst (List.map z0u c1.Products)),.dat (vlst (List.map z0z c1.Plans))]),(2,.box (some (A 2)) 3 [.dat (vint v5)]),(3,.box (some (A 3)) 39 [.dat (vint 0),.dat (vstr []),.dat (vint 0),.dat (vint 0)]),(4,.box none 39 [.dat (vint x11.State),.dat (vstr x11.Plan),.dat (vint x11.Since),.dat (vint x11.First)])],⟨rfl,rfl,rfl,trivial⟩,⟨rfl,rfl,rfl,rfl,trivial⟩,rfl,rfl,rfl,fun X hN => ?_⟩
  refine z0y ?_
  refine z0c ?_
  refine z0b hN rfl ?_
  refine z0a (z0p y9i rfl) ?_
  refine z0j (z0n tyS3 rfl rfl) rfl ?_
  refine z0j (z0n tyS3 rfl rfl) rfl ?_
  refine z0a (y3u rfl rfl) ?_
  refine z0i _ rfl (fun h14 => ?_) (fun h14 => ?_)
  ·replace H:=ift h14 H
   refine z0c ?_
   refine z0b hN rfl ?_
   refine z0j (z04 z4h rfl rfl rfl) rfl ?_
   refine z0f (z02 z4h rfl rfl rfl rfl) rfl ?_
   refine z0r ?_
   replace H:=retl H hq8
   have eH:x11=r:=Option.some.inj H
   subst eH
   exact ⟨[(1,.box none 29 [.dat (vlst (List.map z0u c1.Products)),.dat (vlst (List.map z0z c1.Plans))]),(2,.box none 3 [.dat (vint v5)]),(3,.box none 39 [.dat (vint x11.State),.dat (vstr x11.Plan),.dat (vint x11.Since),.dat (vint x11.First)])],rfl,rfl,rfl,rfl,⟨rfl,rfl,rfl,trivial⟩,⟨.inl ⟨_,_,_,z08 x11,rfl,rfl,rfl,rfl,z4h⟩,trivial⟩⟩
  ·replace H:=iff_ h14 H
   refine z0s ?_
   exact ⟨_,z63 H,⟨rfl,rfl,rfl,trivial⟩⟩
 ·rintro A X ⟨⟩ hN hR H
  replace H:y0u=some r:=H
  unfold y0u at H
  refine z0c ?_
  refine z0b hN rfl ?_
  obtain ⟨r15,h16,H⟩:=bnd H
  refine z0a (z0x (y4m  r15 h16) trivial) ?_
  refine z0f (z02 z4h rfl rfl rfl rfl) rfl ?_
  refine z0r ?_
  have eH:r15=r:=Option.some.inj H
  subst eH
  exact ⟨.inr rfl,[(10,.ptr 3 0)],[(3,.box (some (A 3)) 39 [.dat (vint r15.State),.dat (vstr r15.Plan),.dat (vint r15.Since),.dat (vint r15.First)])],⟨rfl,trivial⟩,⟨rfl,trivial⟩,rfl,rfl,⟨.inl ⟨_,_,_,z08 r15,rfl,rfl,rfl,rfl,z4h⟩,trivial⟩⟩
theorem y60 (c1:z0g) (l2:(List z0e)) (v3:Int) (r:((List Int))) (H:z8q c1 l2 v3=some r):Fn Tryz.prog 18 [vagg (z1d c1),vlst (List.map z0w l2),vint v3] (z1x [vlst (List.map z3o r)]):=by
 refine ⟨by kernel_rfl,z1k (us:=[vlst (List.map z3o r)]) Tryz.func18 rfl rfl rfl rfl fun X hN => ?_⟩
 unfold z8q at H
 refine z0c ?_
 refine z0b hN rfl ?_
 refine z0f (z2h 1 rfl) rfl ?_
 refine qe rfl ?_
 refine z0c ?_
 refine z0b hN rfl ?_
 refine qe rfl ?_
 refine z0c ?_
 refine z0c ?_
 refine z0b hN rfl ?_
 refine qd rfl ?_
 refine z0a (z43 y75 rfl) ?_
 refine qd rfl ?_
 refine z0y ?_
 refine z82 7 2 3 1 rfl rfl rfl ?_
 obtain ⟨h7,H⟩:=gif H
 refine z3u (fun (k5:Nat) (s:(List Int))=>[(1,.dat (vlst (List.map z0w l2))),(2,.dat (vint v3)),(3,.ptr 1 0),(7,.row 2 s.length),(11,.dat (vlst (List.map z0w l2))),(12,.dat (vint (l2.length:Int))),(13,.dat (vint (k5:Int)))]) (fun (k5:Nat) (s:(List Int))=>[(1,.box none 29 [.dat (vlst (List.map z0u c1.Products)),.dat (vlst (List.map z0z c1.Plans))]),(2,.row 3 1 (List.map z3o s))]) [] H ⟨rfl,rfl,rfl,rfl,rfl,rfl,rfl,trivial⟩ ⟨rfl,rfl,trivial⟩ (fun _ _=>rfl) ?_ ?_
 ·rintro l4 H
  replace H:z6e l4=some r:=H
  unfold z6e at H
  refine z0c ?_
  refine z0b hN rfl ?_
  refine z0a (z05 rfl rfl) ?_
  refine z0c ?_
  refine z0i _ rfl (fun h=>(lt_t h).elim) (fun h => ?_)
  refine z1v ?_
  refine z0c ?_
  refine z0b hN rfl ?_
  refine z0a (z0k (.row _ _) rfl) ?_
  refine z0a (z1j (.row _ _) rfl) ?_
  refine z0r ?_
  cases H
  exact ⟨trivial,y3s rfl rfl,trivial⟩
 ·rintro k5 x8 l4 q6 h9 h10 H hq6
  replace H:z5a c1 l2 v3 k5 x8 l4=some q6:=H
  unfold z5a at H
  refine z0c ?_
  refine z0b hN rfl ?_
  refine z0a (z05 rfl rfl) ?_
  refine z0c ?_
  refine z0i _ rfl (fun h => ?_) (fun h=>(lt_f h9 h).elim)
  refine z0s ?_
  refine z1a (ι:=(List Int)) (fun i=>[(1,.dat (vlst (List.map z0w l2))),(2,.dat (vint v3)),(3,.ptr 1 0),(7,.row 2 i.length),(11,.dat (vlst (List.map z0w l2))),(12,.dat (vint (l2.length:Int))),(13,.dat (vint (k5:Int)))]) (fun i=>[(1,.box none 29 [.dat (vlst (List.map z0u c1.Products)),.dat (vlst (List.map z0z c1.Plans))]),(2,.row 3 1 (List.map z3o i))]) (fun i=>z6d i=some q6) (fun i=>rfl) ?_ ?_
  ·skip
   refine z0y ?_
   refine z0c ?_
   refine z0b hN rfl ?_
   refine qd rfl ?_
   refine z0a (y1g y4a (fun _=>rfl) rfl rfl h10) ?_
   refine z0a (z2s y1o rfl (z29 h10) rfl) ?_
   refine z0f (z1h 3 x1r rfl) rfl ?_
   refine qe rfl ?_
   refine z0f (z02 y1o rfl rfl rfl rfl) rfl ?_
   refine z0c ?_
   refine z0b hN rfl ?_
   refine z0j (z04 z5d rfl rfl rfl) rfl ?_
   refine qd rfl ?_
   refine z0a (z0p y2r rfl) ?_
   refine z0j (z0n tyS9 rfl rfl) rfl ?_
   refine z0a (z0p y13 rfl) ?_
   refine z0j (z0n tyS9 rfl rfl) rfl ?_
   refine qd rfl ?_
   obtain ⟨r11,h12,H⟩:=bnd H
   refine z0a (z0x (y3w c1 l2 x8.App x8.Product v3 r11 h12) ⟨.inl rfl,.inl rfl,.inl rfl,.inl rfl,.inl rfl,trivial⟩) ?_
   refine z0f (z1h 4 y3h rfl) rfl ?_
   refine z0f (z02 z4h rfl rfl rfl rfl) rfl ?_
   refine z0c ?_
   refine z0b hN rfl ?_
   refine z0a (z0p z84 rfl) ?_
   refine z0j (z0n tyS3 rfl rfl) rfl ?_
   refine z0a (z12 rfl rfl) ?_
   refine qd rfl ?_
   refine z4w rfl rfl (fun hc=>z0p z8j rfl) ?_
   refine y3v rfl rfl (fun hc=>z0n tyS3 (cnd (c:=(decide (x8.Kind=1))) hc) rfl) rfl y3q ?_
   refine z4w rfl rfl (fun hc=>z12 (cnd (c:=(decide (x8.Kind=1))) hc) rfl) ?_
   refine z0a (z2z rfl (fun hb=>(cnd (c:=(decide (x8.Kind=1))) hb)) rfl) ?_
   refine qd rfl ?_
   refine z4w rfl rfl (fun hc=>z0p y9i rfl) ?_
   refine y3v rfl rfl (fun hc=>z0n tyS3 (cnd (c:=((decide (x8.Kind=1)) && (decide (r11.State=1)))) hc) rfl) rfl y3q ?_
   refine z4w rfl rfl (fun hc=>z0p y0e rfl) ?_
   refine y3v rfl rfl (fun hc=>z0n tyS3 (cnd (c:=((decide (x8.Kind=1)) && (decide (r11.State=1)))) hc) rfl) rfl y3q ?_
   refine z4w rfl rfl (fun hc=>z12 (cnd (c:=((decide (x8.Kind=1)) && (decide (r11.State=1)))) hc) (cnd (c:=((decide (x8.Kind=1)) && (decide (r11.State=1)))) hc)) ?_
   refine z0a (z2z rfl (fun hb=>(cnd (c:=((decide (x8.Kind=1)) && (decide (r11.State=1)))) hb)) rfl) ?_
   refine z0i _ rfl (fun h13 => ?_) (fun h13 => ?_)
   ·replace H:=ift h13 H
    refine z0b hN rfl ?_
    refine z0a (z0k (.row _ _) rfl) ?_
    refine qd rfl ?_
    refine z0a (z06 (u':=vlst (List.map z3o [(k5:Int)])) (z1w [[_]] y1x ⟨rfl,.inl ⟨_,rfl,rfl,rfl⟩,rfl,trivial⟩ rfl rfl) rfl) ?_
    obtain ⟨h14,H⟩:=gif H
    refine z0f (y50 y1x (fun _=>rfl) rfl rfl rfl ⟨by simp,by first | (simp; done) | simpa using h14⟩ rfl) rfl ?_
    refine z0a (z1j (.row _ _) rfl) ?_
    exact ⟨(l4++[(k5:Int)]),H,⟨rfl,rfl,rfl,rfl,rfl,rfl,rfl,trivial⟩,⟨rfl,rfl,trivial⟩⟩
   ·replace H:=iff_ h13 H
    refine z0s ?_
    exact ⟨l4,H,⟨rfl,rfl,rfl,rfl,rfl,rfl,rfl,trivial⟩,⟨rfl,rfl,trivial⟩⟩
  ·rintro out15 H
   replace H:z6d out15=some q6:=H
   unfold z6d at H
   refine z0b hN rfl ?_
   refine z0a (z3v rfl rfl (by omega)) ?_
   refine qd rfl ?_
   exact ⟨_,z63 H,⟨rfl,rfl,rfl,rfl,rfl,rfl,rfl,trivial⟩,⟨rfl,rfl,trivial⟩⟩
theorem x0a (a1:Bs) (b2:Bs) (r:(Bool)) (H:y1u a1 b2=some r):Fn Tryz.prog 80 [vstr a1,vstr b2] (z1x [z1e r]):=by
 refine ⟨by kernel_rfl,z1k (us:=[z1e r]) Tryz.func80 rfl rfl rfl rfl fun X hN => ?_⟩
 unfold y1u at H
 refine z0c ?_
 refine z0b hN rfl ?_
 refine qe rfl ?_
 refine z0c ?_
 refine z0c ?_
 refine z0b hN rfl ?_
 refine qd rfl ?_
 obtain ⟨r3,h4,H⟩:=bnd H
 refine z0a (z0x (y4i a1 [42] r3 h4) ⟨.inl rfl,.inl rfl,trivial⟩) ?_
 refine qd rfl ?_
 refine z0a (z11 rfl rfl) ?_
 refine z0a (z11 rfl rfl) ?_
 refine qe rfl ?_
 refine qe rfl ?_
 refine z0c ?_
 refine z0b hN rfl ?_
 refine qd rfl ?_
 refine z0i _ rfl (fun h5 => ?_) (fun h5 => ?_)
 ·replace H:=ift h5 H
  refine z0c ?_
  refine z0b hN rfl ?_
  refine qd rfl ?_
  refine qd rfl ?_
  obtain ⟨r6,h7,H⟩:=bnd H
  refine z0a (z0x (y4h b2 r3.1 r6 h7) ⟨.inl rfl,.inl rfl,trivial⟩) ?_
  refine qe rfl ?_
  refine z0r ?_
  cases H
  exact ⟨trivial,.inl rfl,trivial⟩
 ·replace H:=iff_ h5 H
  refine z0s ?_
  refine z0c ?_
  refine z0b hN rfl ?_
  refine qd rfl ?_
  refine qd rfl ?_
  refine z0a (y33 rfl rfl) ?_
  refine qe rfl ?_
  refine z0r ?_
  cases H
  exact ⟨trivial,.inl rfl,trivial⟩
theorem y61 (o1:Bs) (c2:Bs) (r:(Bool)) (H:z8s o1 c2=some r):Fn Tryz.prog 79 [vstr o1,z9m [[vstr c2]] 0 0] (z1x [z1e r]):=by
 refine ⟨by kernel_rfl,z1k (us:=[z1e r]) Tryz.func79 rfl rfl rfl rfl fun X hN => ?_⟩
 unfold z8s at H
 refine z0c ?_
 refine z0b hN rfl ?_
 refine qe rfl ?_
 refine z1a (ι:=Bool) (fun i=>[(3,.dat (z1e i))]) (fun i=>[]) (fun i=>z6f i=some r) (fun i=>rfl) ?_ ?_
 ·skip
  refine z0b hN rfl ?_
  refine qd rfl ?_
  refine z0a (z1q tyS9 rfl rfl rfl) ?_
  refine z0a (y1m rfl rfl) ?_
  refine qd rfl ?_
  refine z19 (j:=3) rfl rfl (fun h3 => ?_) (fun h3 => ?_) rfl
  ·have h4:=un1 h3
   replace H:=ift h4 H
   refine z03 rfl rfl h3 (z0k (.dat _) rfl) ?_
   refine z03 rfl rfl h3 (z1q tyS9 rfl rfl rfl) ?_
   obtain ⟨r5,h6,H⟩:=bnd H
   refine z03 rfl rfl h3 (z0x (x0a o1 c2 r5 h6) ⟨.inl rfl,.inl rfl,trivial⟩) ?_
   refine z0a (z1p rfl (bTT h4) rfl) ?_
   refine qe rfl ?_
   exact ⟨r5,H,⟨rfl,trivial⟩,trivial⟩
  ·have h7:=un2 h3
   replace H:=iff_ h7 H
   refine z0l rfl rfl h3 ?_
   refine z0l rfl rfl h3 ?_
   refine z0l rfl rfl h3 ?_
   refine z0a (z1b rfl (bFF h7) rfl) ?_
   refine qe rfl ?_
   exact ⟨false,H,⟨rfl,trivial⟩,trivial⟩
 ·rintro v8 H
  replace H:z6f v8=some r:=H
  unfold z6f at H
  refine z0r ?_
  cases H
  exact ⟨trivial,.inl rfl,trivial⟩
theorem y7u (l1:(List Bs)) (r:((List Bs))) (H:z90 l1=some r):Fn Tryz.prog 46 [vlst (List.map z00 l1)] (z1x [vlst (List.map z00 r)]):=by
 refine ⟨by kernel_rfl,z1k (us:=[vlst (List.map z00 r)]) Tryz.func46 rfl rfl rfl rfl fun X hN => ?_⟩
 unfold z90 at H
 refine z0c ?_
 refine z0b hN rfl ?_
 refine qe rfl ?_
 refine z0c ?_
 refine z0b hN rfl ?_
 refine qe rfl ?_
 refine z0c ?_
 refine z0c ?_
 refine z0b hN rfl ?_
 refine qd rfl ?_
 refine z0a (z43 y2p rfl) ?_
 refine qd rfl ?_
 refine z0y ?_
 refine z82 3 1 9 1 rfl rfl rfl ?_
 obtain ⟨h5,H⟩:=gif H
 refine z3u (fun (k3:Nat) (s:(List Bs))=>[(0,.dat (vlst (List.map z00 l1))),(3,.row 1 s.length),(6,.dat (vlst (List.map z00 l1))),(7,.dat (vint (l1.length:Int))),(8,.dat (vint (k3:Int)))]) (fun (k3:Nat) (s:(List Bs))=>[(1,.row 9 1 (List.map z00 s))]) [] H ⟨rfl,rfl,rfl,rfl,rfl,trivial⟩ ⟨rfl,trivial⟩ (fun _ _=>rfl) ?_ ?_
 ·rintro l2 H
  replace H:y04 l2=some r:=H
  unfold y04 at H
  refine z0c ?_
  refine z0b hN rfl ?_
  refine z0a (z05 rfl rfl) ?_
  refine z0c ?_
  refine z0i _ rfl (fun h=>(lt_t h).elim) (fun h => ?_)
  refine z1v ?_
  refine z0c ?_
  refine z0b hN rfl ?_
  refine z0a (z0k (.row _ _) rfl) ?_
  obtain ⟨r7,h8,H⟩:=bnd H
  refine z7u (rn [(0,1)]) [(0,_,_,some _)] [] (y0q l2 r7 h8) ⟨rfl,trivial⟩ ⟨.inl (.inl rfl),trivial⟩ ⟨⟨⟨rfl,rfl,rfl⟩,by simp [y8v,y6b h8]⟩,trivial⟩ rfl ?_
  refine z0c ?_
  refine z0b hN rfl ?_
  refine z0a (z0k (.row _ _) rfl) ?_
  obtain ⟨r9,h10,H⟩:=bnd H
  refine z7u (rn [(0,1),(900,2)]) [(0,_,_,none)] [(900,_)] (z9l r7 r9 h10) ⟨rfl,rfl,trivial⟩ ⟨.inl (.inl (congrArg (Slot.row 1) (y6b h8).symm)),trivial⟩ ⟨⟨⟨rfl,rfl,rfl⟩,trivial⟩,trivial⟩ rfl ?_
  refine z0a (z1j (.row _ _) rfl) ?_
  refine z0r ?_
  cases H
  exact ⟨trivial,y3s rfl rfl,trivial⟩
 ·rintro k3 x6 l2 q4 h11 h12 H hq4
  replace H:y03 l1 k3 x6 l2=some q4:=H
  unfold y03 at H
  refine z0c ?_
  refine z0b hN rfl ?_
  refine z0a (z05 rfl rfl) ?_
  refine z0c ?_
  refine z0i _ rfl (fun h => ?_) (fun h=>(lt_f h11 h).elim)
  refine z0s ?_
  refine z1a (ι:=(List Bs)) (fun i=>[(0,.dat (vlst (List.map z00 l1))),(3,.row 1 i.length),(6,.dat (vlst (List.map z00 l1))),(7,.dat (vint (l1.length:Int))),(8,.dat (vint (k3:Int)))]) (fun i=>[(1,.row 9 1 (List.map z00 i))]) (fun i=>z7j i=some q4) (fun i=>rfl) ?_ ?_
  ·skip
   refine z0y ?_
   refine z0c ?_
   refine z0b hN rfl ?_
   refine z0a (y1g y5z (fun _=>rfl) rfl rfl h12) ?_
   refine z0a (z1q tyS9 rfl (z29 h12) rfl) ?_
   refine z0f (z1h 3 tyZ9 rfl) rfl ?_
   refine z0f (z2n tyS9 rfl rfl rfl rfl) rfl ?_
   refine z0c ?_
   refine y4y 3 [vstr x6] rfl rfl ?_
   refine z0b hN rfl ?_
   refine qd rfl ?_
   refine z0a (y5n (us:=[_]) ⟨rfl,trivial⟩) ?_
   obtain ⟨r13,h14,H⟩:=bnd H
   refine z0a (z0x (z8e l1 (fun (a0:Bs)=>z8s a0 x6) 79 [z9m [[vstr x6]] 0 0] (fun a0 r h=>y61 a0 x6 r h) r13 h14) ⟨.inl rfl,.inl rfl,trivial⟩) ?_
   refine z0a (z3r rfl) ?_
   refine z0i _ rfl (fun h15 => ?_) (fun h15 => ?_)
   ·replace H:=ift h15 H
    refine z0b hN rfl ?_
    refine z0a (z0k (.row _ _) rfl) ?_
    refine z0a (z1q tyS9 rfl rfl rfl) ?_
    refine z0a (z06 (u':=vlst (List.map z00 [x6])) (z1w [[_]] y06 ⟨rfl,.inl ⟨_,rfl,rfl,rfl⟩,rfl,trivial⟩ rfl rfl) rfl) ?_
    obtain ⟨h16,H⟩:=gif H
    refine z0f (y50 y06 (fun _=>rfl) rfl rfl rfl ⟨by simp,by first | (simp; done) | simpa using h16⟩ rfl) rfl ?_
    refine z0a (z1j (.row _ _) rfl) ?_
    exact ⟨(l2++[x6]),H,⟨rfl,rfl,rfl,rfl,rfl,trivial⟩,⟨rfl,trivial⟩⟩
   ·replace H:=iff_ h15 H
    refine z0s ?_
    exact ⟨l2,H,⟨rfl,rfl,rfl,rfl,rfl,trivial⟩,⟨rfl,trivial⟩⟩
  ·rintro out17 H
   replace H:z7j out17=some q4:=H
   unfold z7j at H
   refine z0b hN rfl ?_
   refine z0a (z3v rfl rfl (by omega)) ?_
   refine qd rfl ?_
   exact ⟨_,z63 H,⟨rfl,rfl,rfl,rfl,rfl,trivial⟩,⟨rfl,trivial⟩⟩
theorem y7e (c1:z0g) (l2:(List z0e)) (app3:Bs) (v4:Int) (r:((List Bs)×Int)) (H:z9c c1 l2 app3 v4=some r):Fn Tryz.prog 19 [vagg (z1d c1),vlst (List.map z0w l2),vstr app3,vint v4] (z1x [vlst (List.map z00 r.1),vint r.2]):=by
 refine ⟨by kernel_rfl,z1k (us:=[vlst (List.map z00 r.1),vint r.2]) Tryz.func19 rfl rfl rfl rfl fun X hN => ?_⟩
 unfold z9c at H
 refine z0c ?_
 refine z0b hN rfl ?_
 refine z0f (z2h 1 rfl) rfl ?_
 refine qe rfl ?_
 refine qe rfl ?_
 refine z0c ?_
 refine z0b hN rfl ?_
 refine qe rfl ?_
 refine z0c ?_
 refine z0c ?_
 refine z0b hN rfl ?_
 refine z0a (z0p y5k rfl) ?_
 refine z0j (z0n x1s rfl rfl) rfl ?_
 refine z0a (z43 x3m rfl) ?_
 refine qd rfl ?_
 refine z0y ?_
 refine z82 10 2 9 1 rfl rfl rfl ?_
 obtain ⟨h8,H⟩:=gif H
 refine z3u (fun (k6:Nat) (s:(List Bs))=>[(1,.dat (vlst (List.map z0w l2))),(2,.dat (vstr app3)),(3,.dat (vint v4)),(4,.ptr 1 0),(10,.row 2 s.length),(14,.dat (vlst (List.map z0u c1.Products))),(15,.dat (vint (c1.Products.length:Int))),(16,.dat (vint (k6:Int)))]) (fun (k6:Nat) (s:(List Bs))=>[(1,.box none 29 [.dat (vlst (List.map z0u c1.Products)),.dat (vlst (List.map z0z c1.Plans))]),(2,.row 9 1 (List.map z00 s))]) [] H ⟨rfl,rfl,rfl,rfl,rfl,rfl,rfl,rfl,trivial⟩ ⟨rfl,rfl,trivial⟩ (fun _ _=>rfl) ?_ ?_
 ·rintro l5 H
  replace H:z34 l5=some r:=H
  unfold z34 at H
  refine z0c ?_
  refine z0b hN rfl ?_
  refine z0a (z05 rfl rfl) ?_
  refine z0c ?_
  refine z0i _ rfl (fun h=>(lt_t h).elim) (fun h => ?_)
  refine z1v ?_
  refine z0c ?_
  refine z0c ?_
  refine z0b hN rfl ?_
  refine z0a (z0k (.row _ _) rfl) ?_
  refine z0j (y7j y2p rfl rfl) rfl ?_
  refine z0a (z5n rfl rfl) ?_
  refine z0i _ rfl (fun h10 => ?_) (fun h10 => ?_)
  ·replace H:=ift h10 H
   refine z0c ?_
   refine z0b hN rfl ?_
   refine qe rfl ?_
   refine qe rfl ?_
   refine z0r ?_
   cases H
   exact ⟨trivial,.inr ⟨rfl,rfl⟩,.inl rfl,trivial⟩
  ·replace H:=iff_ h10 H
   refine z0s ?_
   refine z0c ?_
   refine y87 10 2 rfl rfl rfl ?_
   refine z0b hN rfl ?_
   refine qd rfl ?_
   obtain ⟨r11,h12,H⟩:=bnd H
   refine z0a (z0x (y7u l5 r11 h12) ⟨.inl rfl,trivial⟩) ?_
   refine qe rfl ?_
   refine qe rfl ?_
   refine z0r ?_
   cases H
   exact ⟨trivial,.inl rfl,.inl rfl,trivial⟩
 ·rintro k6 x9 l5 q7 h13 h14 H hq7
  replace H:z5t c1 l2 app3 v4 k6 x9 l5=some q7:=H
  unfold z5t at H
  refine z0c ?_
  refine z0b hN rfl ?_
  refine z0a (z05 rfl rfl) ?_
  refine z0c ?_
  refine z0i _ rfl (fun h => ?_) (fun h=>(lt_f h13 h).elim)
  refine z0s ?_
  refine z1a (ι:=(List Bs)) (fun i=>[(1,.dat (vlst (List.map z0w l2))),(2,.dat (vstr app3)),(3,.dat (vint v4)),(4,.ptr 1 0),(10,.row 2 i.length),(14,.dat (vlst (List.map z0u c1.Products))),(15,.dat (vint (c1.Products.length:Int))),(16,.dat (vint (k6:Int)))]) (fun i=>[(1,.box none 29 [.dat (vlst (List.map z0u c1.Products)),.dat (vlst (List.map z0z c1.Plans))]),(2,.row 9 1 (List.map z00 i))]) (fun i=>z6z i=some q7) (fun i=>rfl) ?_ ?_
  ·skip
   refine z0y ?_
   refine z0c ?_
   refine z0b hN rfl ?_
   refine z0a (y1g x3q (fun _=>rfl) rfl rfl h14) ?_
   refine z0a (z2s y9f rfl (z29 h14) rfl) ?_
   refine z0f (z1h 3 x0r rfl) rfl ?_
   refine z0f (z02 y9f rfl rfl rfl rfl) rfl ?_
   refine z0c ?_
   refine z0b hN rfl ?_
   refine z0j (z04 z5d rfl rfl rfl) rfl ?_
   refine qd rfl ?_
   refine qd rfl ?_
   refine z0a (z0p y4z rfl) ?_
   refine z0j (z0n tyS9 rfl rfl) rfl ?_
   refine qd rfl ?_
   obtain ⟨r15,h16,H⟩:=bnd H
   refine z0a (z0x (y3w c1 l2 app3 x9.Key v4 r15 h16) ⟨.inl rfl,.inl rfl,.inl rfl,.inl rfl,.inl rfl,trivial⟩) ?_
   refine z0a (x06 z8j tyS3 rfl rfl) ?_
   refine z0a (z12 rfl rfl) ?_
   refine z0i _ rfl (fun h17 => ?_) (fun h17 => ?_)
   ·replace H:=ift h17 H
    refine z0b hN rfl ?_
    refine z0a (z0k (.row _ _) rfl) ?_
    refine z0a (z0p x1t rfl) ?_
    refine z0j (z0n x3o rfl rfl) rfl ?_
    obtain ⟨h18,H⟩:=gif H
    refine z0f (x9c y06 (fun _=>rfl) rfl rfl rfl h18 rfl) rfl ?_
    refine z0a (z1j (.row _ _) rfl) ?_
    exact ⟨(l5++x9.Scopes),H,⟨rfl,rfl,rfl,rfl,rfl,rfl,rfl,rfl,trivial⟩,⟨rfl,rfl,trivial⟩⟩
   ·replace H:=iff_ h17 H
    refine z0s ?_
    exact ⟨l5,H,⟨rfl,rfl,rfl,rfl,rfl,rfl,rfl,rfl,trivial⟩,⟨rfl,rfl,trivial⟩⟩
  ·rintro out19 H
   replace H:z6z out19=some q7:=H
   unfold z6z at H
   refine z0b hN rfl ?_
   refine z0a (z3v rfl rfl (by omega)) ?_
   refine qd rfl ?_
   exact ⟨_,z63 H,⟨rfl,rfl,rfl,rfl,rfl,rfl,rfl,rfl,trivial⟩,⟨rfl,rfl,trivial⟩⟩
theorem y42 (s1:(List Int)) (s2:(List Int)) (r:(Bool)) (H:z7m s1 s2=some r):Fn Tryz.prog 20 [vlst (List.map z3o s1),vlst (List.map z3o s2)] (z1x [z1e r]):=by
 refine ⟨by kernel_rfl,z1k (us:=[z1e r]) Tryz.func20 rfl rfl rfl rfl fun X hN => ?_⟩
 unfold z7m at H
 refine z0c ?_
 refine z0b hN rfl ?_
 refine qe rfl ?_
 refine z0c ?_
 refine z0c ?_
 refine z0b hN rfl ?_
 refine qd rfl ?_
 refine z0a (z43 x3n rfl) ?_
 refine qd rfl ?_
 refine z0a (z43 x3n rfl) ?_
 refine z0a (z6i rfl rfl) ?_
 refine z0i _ rfl (fun h3 => ?_) (fun h3 => ?_)
 ·replace H:=ift h3 H
  refine z0c ?_
  refine z0b hN rfl ?_
  refine qe rfl ?_
  refine z0r ?_
  cases H
  exact ⟨trivial,.inl rfl,trivial⟩
 ·replace H:=iff_ h3 H
  refine z0s ?_
  refine z0c ?_
  refine z0c ?_
  refine z0b hN rfl ?_
  refine qd rfl ?_
  refine z0a (z43 x3n rfl) ?_
  refine qd rfl ?_
  refine z0y ?_
  obtain ⟨h6,H⟩:=gif H
  refine z3u (fun (k4:Nat) (s:Unit)=>[(0,.dat (vlst (List.map z3o s1))),(1,.dat (vlst (List.map z3o s2))),(12,.dat (vint (s1.length:Int))),(13,.dat (vint (k4:Int)))]) (fun (k4:Nat) (s:Unit)=>[]) () H ⟨rfl,rfl,rfl,rfl,trivial⟩ trivial (fun _ _=>rfl) ?_ ?_
  ·rintro ⟨⟩ H
   replace H:z9p=some r:=H
   unfold z9p at H
   refine z0c ?_
   refine z0b hN rfl ?_
   refine z0a (z05 rfl rfl) ?_
   refine z0c ?_
   refine z0i _ rfl (fun h=>(lt_t h).elim) (fun h => ?_)
   refine z1v ?_
   refine z0c ?_
   refine z0b hN rfl ?_
   refine qe rfl ?_
   refine z0r ?_
   cases H
   exact ⟨trivial,.inl rfl,trivial⟩
  ·rintro k4 x7 ⟨⟩ q5 h8 h9 H hq5
   replace H:z9o s2 k4 x7=some q5:=H
   unfold z9o at H
   refine z0c ?_
   refine z0b hN rfl ?_
   refine z0a (z05 rfl rfl) ?_
   refine z0c ?_
   refine z0i _ rfl (fun h => ?_) (fun h=>(lt_f h8 h).elim)
   refine z0s ?_
   refine z0c ?_
   refine z0y ?_
   refine z0c ?_
   refine z0b hN rfl ?_
   refine qd rfl ?_
   refine qe rfl ?_
   refine z0c ?_
   refine z3q mixed hN rfl rfl ?_
   refine qd rfl ?_
   refine qd rfl ?_
   refine z0a (y1g x86 (fun _=>rfl) rfl rfl h9) ?_
   refine z0a (z1q tyS3 rfl (z29 h9) rfl) ?_
   refine qd rfl ?_
   refine qd rfl ?_
   obtain ⟨x10,h11,H⟩:=bnd H
   refine z0a (y1g x86 (fun _=>rfl) rfl rfl h11) ?_
   refine z0a (z1q tyS3 rfl (z29 h11) rfl) ?_
   refine z0a (z6i rfl rfl) ?_
   refine ⟨rfl,?_⟩
   refine z0i _ rfl (fun h12 => ?_) (fun h12 => ?_)
   ·replace H:=ift h12 H
    refine z0c ?_
    refine z0b hN rfl ?_
    refine qe rfl ?_
    refine z0r ?_
    replace H:=retl H hq5
    cases H
    exact ⟨trivial,.inl rfl,trivial⟩
   ·replace H:=iff_ h12 H
    refine z0s ?_
    refine z0b hN rfl ?_
    refine z0a (z3v rfl rfl (by omega)) ?_
    refine qd rfl ?_
    exact ⟨_,z63 H,⟨rfl,rfl,rfl,rfl,trivial⟩,trivial⟩
theorem y29 (s1:(List Bs)) (s2:(List Bs)) (r:(Bool)) (H:z5h s1 s2=some r):Fn Tryz.prog 21 [vlst (List.map z00 s1),vlst (List.map z00 s2)] (z1x [z1e r]):=by
 refine ⟨by kernel_rfl,z1k (us:=[z1e r]) Tryz.func21 rfl rfl rfl rfl fun X hN => ?_⟩
 unfold z5h at H
 refine z0c ?_
 refine z0b hN rfl ?_
 refine qe rfl ?_
 refine z0c ?_
 refine z0c ?_
 refine z0b hN rfl ?_
 refine qd rfl ?_
 refine z0a (z43 y2p rfl) ?_
 refine qd rfl ?_
 refine z0a (z43 y2p rfl) ?_
 refine z0a (z6i rfl rfl) ?_
 refine z0i _ rfl (fun h3 => ?_) (fun h3 => ?_)
 ·replace H:=ift h3 H
  refine z0c ?_
  refine z0b hN rfl ?_
  refine qe rfl ?_
  refine z0r ?_
  cases H
  exact ⟨trivial,.inl rfl,trivial⟩
 ·replace H:=iff_ h3 H
  refine z0s ?_
  refine z0c ?_
  refine z0c ?_
  refine z0b hN rfl ?_
  refine qd rfl ?_
  refine z0a (z43 y2p rfl) ?_
  refine qd rfl ?_
  refine z0y ?_
  obtain ⟨h6,H⟩:=gif H
  refine z3u (fun (k4:Nat) (s:Unit)=>[(0,.dat (vlst (List.map z00 s1))),(1,.dat (vlst (List.map z00 s2))),(12,.dat (vint (s1.length:Int))),(13,.dat (vint (k4:Int)))]) (fun (k4:Nat) (s:Unit)=>[]) () H ⟨rfl,rfl,rfl,rfl,trivial⟩ trivial (fun _ _=>rfl) ?_ ?_
  ·rintro ⟨⟩ H
   replace H:z62=some r:=H
   unfold z62 at H
   refine z0c ?_
   refine z0b hN rfl ?_
   refine z0a (z05 rfl rfl) ?_
   refine z0c ?_
   refine z0i _ rfl (fun h=>(lt_t h).elim) (fun h => ?_)
   refine z1v ?_
   refine z0c ?_
   refine z0b hN rfl ?_
   refine qe rfl ?_
   refine z0r ?_
   cases H
   exact ⟨trivial,.inl rfl,trivial⟩
  ·rintro k4 x7 ⟨⟩ q5 h8 h9 H hq5
   replace H:z61 s2 k4 x7=some q5:=H
   unfold z61 at H
   refine z0c ?_
   refine z0b hN rfl ?_
   refine z0a (z05 rfl rfl) ?_
   refine z0c ?_
   refine z0i _ rfl (fun h => ?_) (fun h=>(lt_f h8 h).elim)
   refine z0s ?_
   refine z0c ?_
   refine z0y ?_
   refine z0c ?_
   refine z0b hN rfl ?_
   refine qd rfl ?_
   refine qe rfl ?_
   refine z0c ?_
   refine z3q mixed hN rfl rfl ?_
   refine qd rfl ?_
   refine qd rfl ?_
   refine z0a (y1g y5z (fun _=>rfl) rfl rfl h9) ?_
   refine z0a (z1q tyS9 rfl (z29 h9) rfl) ?_
   refine qd rfl ?_
   refine qd rfl ?_
   obtain ⟨x10,h11,H⟩:=bnd H
   refine z0a (y1g y5z (fun _=>rfl) rfl rfl h11) ?_
   refine z0a (z1q tyS9 rfl (z29 h11) rfl) ?_
   refine z0a (y1m rfl rfl) ?_
   refine ⟨rfl,?_⟩
   refine z0i _ rfl (fun h12 => ?_) (fun h12 => ?_)
   ·replace H:=ift h12 H
    refine z0c ?_
    refine z0b hN rfl ?_
    refine qe rfl ?_
    refine z0r ?_
    replace H:=retl H hq5
    cases H
    exact ⟨trivial,.inl rfl,trivial⟩
   ·replace H:=iff_ h12 H
    refine z0s ?_
    refine z0b hN rfl ?_
    refine z0a (z3v rfl rfl (by omega)) ?_
    refine qd rfl ?_
    exact ⟨_,z63 H,⟨rfl,rfl,rfl,rfl,trivial⟩,trivial⟩
theorem x0t (p1:z0o) (calls2:Int) (r:(Int)) (H:y2d p1 calls2=some r):Fn Tryz.prog 85 [vagg (z0z p1),vint calls2] (z1x [vint r]):=by
 refine ⟨by kernel_rfl,z1k (us:=[vint r]) Tryz.func85 rfl rfl rfl rfl fun X hN => ?_⟩
 unfold y2d at H
 refine z0c ?_
 refine z0b hN rfl ?_
 refine z0f (z2h 1 rfl) rfl ?_
 refine qe rfl ?_
 refine z0c ?_
 refine z0b hN rfl ?_
 refine qd rfl ?_
 refine z0a (z0p y86 rfl) ?_
 refine z0j (z0n tyS3 rfl rfl) rfl ?_
 refine z0a (z1s _ rfl rfl (.inr (.inl ⟨rfl,rfl⟩))) ?_
 refine z0a (x9i rfl rfl) ?_
 refine qe rfl ?_
 refine z0c ?_
 refine z0b hN rfl ?_
 refine qe rfl ?_
 refine z0c ?_
 refine z0c ?_
 refine z0b hN rfl ?_
 refine z0a (z0p y0y rfl) ?_
 refine z0j (z0n y39 rfl rfl) rfl ?_
 refine z0a (z43 y8o rfl) ?_
 refine qd rfl ?_
 refine z0y ?_
 obtain ⟨h6,H⟩:=gif H
 refine z3u (fun (k4:Nat) (s:Int)=>[(2,.ptr 1 0),(5,.dat (vint (max 0 (wr (calls2 - p1.Free))))),(6,.dat (vint s)),(16,.dat (vlst (List.map z1r p1.Tiers))),(17,.dat (vint (p1.Tiers.length:Int))),(18,.dat (vint (k4:Int)))]) (fun (k4:Nat) (s:Int)=>[(1,.box none 105 [.dat (vstr p1.Key),.dat (vstr p1.Product),.dat (vint p1.Base),.dat (vint p1.Free),.dat (vlst (List.map z1r p1.Tiers)),.dat (vint p1.Limit),.dat (vint p1.Trial),.dat (z1e p1.Asked)])]) 0 H ⟨rfl,rfl,rfl,rfl,rfl,rfl,trivial⟩ ⟨rfl,trivial⟩ (fun _ _=>rfl) ?_ ?_
 ·rintro sum3 H
  replace H:y0g sum3=some r:=H
  unfold y0g at H
  refine z0c ?_
  refine z0b hN rfl ?_
  refine z0a (z05 rfl rfl) ?_
  refine z0c ?_
  refine z0i _ rfl (fun h=>(lt_t h).elim) (fun h => ?_)
  refine z1v ?_
  refine z0c ?_
  refine z0b hN rfl ?_
  refine qd rfl ?_
  obtain ⟨h8,H⟩:=gif H
  refine z0a (x9f rfl rfl h8.1 h8.2) ?_
  refine qe rfl ?_
  refine z0r ?_
  cases H
  exact ⟨trivial,.inl rfl,trivial⟩
 ·rintro k4 x7 sum3 q5 h9 h10 H hq5
  replace H:z85 p1 calls2 k4 x7 sum3=some q5:=H
  unfold z85 at H
  refine z0c ?_
  refine z0b hN rfl ?_
  refine z0a (z05 rfl rfl) ?_
  refine z0c ?_
  refine z0i _ rfl (fun h => ?_) (fun h=>(lt_f h9 h).elim)
  refine z0s ?_
  refine z0c ?_
  refine z0y ?_
  refine z0c ?_
  refine z0b hN rfl ?_
  refine qd rfl ?_
  refine z0a (y1g y8p (fun _=>rfl) rfl rfl h10) ?_
  refine z0a (z2s x03 rfl (z29 h10) rfl) ?_
  refine z0f (z1h 2 y9d rfl) rfl ?_
  refine qe rfl ?_
  refine z0f (z02 x03 rfl rfl rfl rfl) rfl ?_
  refine z0c ?_
  refine z0b hN rfl ?_
  refine qd rfl ?_
  refine qe rfl ?_
  refine z1a (ι:=Int) (fun i=>[(2,.ptr 1 0),(5,.dat (vint (max 0 (wr (calls2 - p1.Free))))),(6,.dat (vint sum3)),(8,.ptr 2 0),(9,.dat (vint i)),(16,.dat (vlst (List.map z1r p1.Tiers))),(17,.dat (vint (p1.Tiers.length:Int))),(18,.dat (vint (k4:Int)))]) (fun i=>[(1,.box none 105 [.dat (vstr p1.Key),.dat (vstr p1.Product),.dat (vint p1.Base),.dat (vint p1.Free),.dat (vlst (List.map z1r p1.Tiers)),.dat (vint p1.Limit),.dat (vint p1.Trial),.dat (z1e p1.Asked)]),(2,.box none 102 [.dat (vint x7.From),.dat (vint x7.Cents)])]) (fun i=>z86 sum3 x7 i=some q5) (fun i=>rfl) ?_ ?_
  ·skip
   refine z0c ?_
   refine z0b hN rfl ?_
   refine qd rfl ?_
   refine z0a (z3v rfl rfl (by omega)) ?_
   refine z0a (z0p y0y rfl) ?_
   refine z0j (z0n y39 rfl rfl) rfl ?_
   refine z0a (z43 y8o rfl) ?_
   refine z0a (z05 rfl rfl) ?_
   refine z0i _ rfl (fun h11 => ?_) (fun h11 => ?_)
   ·replace H:=ift h11 H
    refine z0b hN rfl ?_
    refine qd rfl ?_
    refine z0a (z0p y0y rfl) ?_
    refine z0j (z0n y39 rfl rfl) rfl ?_
    refine qd rfl ?_
    refine z0a (z3v rfl rfl (by omega)) ?_
    obtain ⟨x12,h13,H⟩:=bnd H
    refine z0a (y1g y8p (fun _=>rfl) rfl rfl h13) ?_
    refine z0a (y0c y3d rfl) ?_
    refine z0a (z1q tyS3 rfl (z29 h13) rfl) ?_
    refine z0a (z1s _ rfl rfl (.inr (.inl ⟨rfl,rfl⟩))) ?_
    refine z0a (w5b rfl rfl) ?_
    refine qe rfl ?_
    exact ⟨(min (max 0 (wr (calls2 - p1.Free))) (wr (x12.From - 1))),H,⟨rfl,rfl,rfl,rfl,rfl,rfl,rfl,rfl,trivial⟩,⟨rfl,rfl,trivial⟩⟩
   ·replace H:=iff_ h11 H
    refine z0s ?_
    exact ⟨(max 0 (wr (calls2 - p1.Free))),H,⟨rfl,rfl,rfl,rfl,rfl,rfl,rfl,rfl,trivial⟩,⟨rfl,rfl,trivial⟩⟩
  ·rintro to14 H
   replace H:z86 sum3 x7 to14=some q5:=H
   unfold z86 at H
   refine z0b hN rfl ?_
   refine qd rfl ?_
   refine qd rfl ?_
   refine z0a (z0p y3d rfl) ?_
   refine z0j (z0n tyS3 rfl rfl) rfl ?_
   refine z0a (z1s _ rfl rfl (.inr (.inl ⟨rfl,rfl⟩))) ?_
   refine z0a (z1s _ rfl rfl (.inl ⟨rfl,rfl⟩)) ?_
   refine z0a (x9i rfl rfl) ?_
   refine z0a (z0p x1z rfl) ?_
   refine z0j (z0n tyS3 rfl rfl) rfl ?_
   refine z0a (z1s _ rfl rfl (.inr (.inr ⟨rfl,rfl⟩))) ?_
   refine z0a (z1s _ rfl rfl (.inl ⟨rfl,rfl⟩)) ?_
   refine qe rfl ?_
   refine z0b hN rfl ?_
   refine z0a (z3v rfl rfl (by omega)) ?_
   refine qd rfl ?_
   exact ⟨_,z63 H,⟨rfl,rfl,rfl,rfl,rfl,rfl,trivial⟩,⟨rfl,trivial⟩⟩
theorem x0w (c1:z0g) (plan2:Bs) (calls3:Int) (r:(Int×Int)) (H:y2e c1 plan2 calls3=some r):Fn Tryz.prog 47 [vagg (z1d c1),vstr plan2,vint calls3] (z1x [vint r.1,vint r.2]):=by
 refine ⟨by kernel_rfl,z1k (us:=[vint r.1,vint r.2]) Tryz.func47 rfl rfl rfl rfl fun X hN => ?_⟩
 unfold y2e at H
 refine z0c ?_
 refine z0b hN rfl ?_
 refine z0f (z2h 1 rfl) rfl ?_
 refine qe rfl ?_
 refine qe rfl ?_
 refine z0c ?_
 refine z0c ?_
 refine z0b hN rfl ?_
 refine z0j (z04 z5d rfl rfl rfl) rfl ?_
 obtain ⟨r4,h5,H⟩:=bnd H
 refine z0a (z0x (y3m c1 r4 h5) ⟨.inl rfl,trivial⟩) ?_
 refine qe rfl ?_
 refine z0c ?_
 refine z0b hN rfl ?_
 refine qd rfl ?_
 refine z0a (z6i rfl rfl) ?_
 refine z0i _ rfl (fun h6 => ?_) (fun h6 => ?_)
 ·replace H:=ift h6 H
  refine z0c ?_
  refine z0b hN rfl ?_
  refine qd rfl ?_
  refine qe rfl ?_
  refine qe rfl ?_
  refine z0r ?_
  cases H
  exact ⟨trivial,.inl rfl,.inl rfl,trivial⟩
 ·replace H:=iff_ h6 H
  refine z0s ?_
  refine z0c ?_
  refine z0b hN rfl ?_
  refine z0j (z04 z5d rfl rfl rfl) rfl ?_
  refine qd rfl ?_
  obtain ⟨r7,h8,H⟩:=bnd H
  refine z0a (z0x (y4j c1 plan2 r7 h8) ⟨.inl rfl,.inl rfl,trivial⟩) ?_
  refine qd rfl ?_
  refine z0a (z11 rfl rfl) ?_
  refine z0a (z11 rfl rfl) ?_
  refine z0f (z1h 2 y48 rfl) rfl ?_
  refine z0f (z02 y1j rfl rfl rfl rfl) rfl ?_
  refine qe rfl ?_
  refine z0c ?_
  refine z0c ?_
  refine z0b hN rfl ?_
  refine qd rfl ?_
  refine z0a (z3r rfl) ?_
  refine z0i _ rfl (fun h9 => ?_) (fun h9 => ?_)
  ·replace H:=ift h9 H
   refine z0c ?_
   refine z0b hN rfl ?_
   refine qe rfl ?_
   refine qe rfl ?_
   refine z0r ?_
   cases H
   exact ⟨trivial,.inl rfl,.inl rfl,trivial⟩
  ·replace H:=iff_ h9 H
   refine z0s ?_
   refine z0c ?_
   refine z0c ?_
   refine z0b hN rfl ?_
   refine qd rfl ?_
   obtain ⟨r10,h11,H⟩:=bnd H
   refine z0a (z0x (z91 calls3 0 1000000000000 r10 h11) ⟨.inl rfl,.inl rfl,.inl rfl,trivial⟩) ?_
   refine z0i _ rfl (fun h12 => ?_) (fun h12 => ?_)
   ·replace H:=ift h12 H
    refine z0c ?_
    refine z0b hN rfl ?_
    refine qe rfl ?_
    refine qe rfl ?_
    refine z0r ?_
    cases H
    exact ⟨trivial,.inl rfl,.inl rfl,trivial⟩
   ·replace H:=iff_ h12 H
    refine z0s ?_
    refine z0c ?_
    refine z0b hN rfl ?_
    refine z0j (z04 y1j rfl rfl rfl) rfl ?_
    refine qd rfl ?_
    obtain ⟨r13,h14,H⟩:=bnd H
    refine z0a (z0x (x0t r7.1 calls3 r13 h14) ⟨.inl rfl,.inl rfl,trivial⟩) ?_
    refine qe rfl ?_
    refine qe rfl ?_
    refine z0r ?_
    cases H
    exact ⟨trivial,.inl rfl,.inl rfl,trivial⟩
theorem y8f  (r:(Bool)) (H:y0o  = some r):Fn Tryz.prog 22 [] (z1x [z1e r]):=by
 refine ⟨by kernel_rfl,z1k (us:=[z1e r]) Tryz.func22 rfl rfl rfl rfl fun X hN => ?_⟩
 unfold y0o at H
 refine z0c ?_
 refine z0b hN rfl ?_
 refine qe rfl ?_
 refine z0c ?_
 refine z0b hN rfl ?_
 refine z0a (w4i (u':=vagg (z0u (z0m.mk [112] []))) (w4a (by exact ⟨y8n,x3j,trivial⟩)) (z3k [(0,[vstr [112]])] x0r x7q rfl ⟨rfl,.inl ⟨_,rfl,rfl,rfl⟩,rfl,trivial⟩)) ?_
 refine z0a (z06 (u':=vlst (List.map z0u [(z0m.mk [112] [])])) (z1w [_] x83 ⟨rfl,.inr rfl,rfl,trivial⟩ rfl rfl) rfl) ?_
 refine z0a (z06 (u':=vagg (z1r (z01.mk 1 2000))) (z3k [(0,[vint 1]),(1,[vint 2000])] y9d x55 rfl ⟨rfl,.inl ⟨_,rfl,rfl,rfl⟩,rfl,rfl,.inl ⟨_,rfl,rfl,rfl⟩,rfl,trivial⟩) rfl) ?_
 refine z0a (z06 (u':=vlst (List.map z1r [(z01.mk 1 2000)])) (z1w [_] y9g ⟨rfl,.inr rfl,rfl,trivial⟩ rfl rfl) rfl) ?_
 refine z0a (z06 (u':=vagg (z0z (z0o.mk [113] [112] 0 0 [(z01.mk 1 2000)] 0 0 false))) (z3k [(0,[vstr [113]]),(1,[vstr [112]]),(4,[vlst (List.map z1r [(z01.mk 1 2000)])])] y48 x54 rfl ⟨rfl,.inl ⟨_,rfl,rfl,rfl⟩,rfl,rfl,.inl ⟨_,rfl,rfl,rfl⟩,rfl,rfl,.inl ⟨_,rfl,rfl,rfl⟩,rfl,trivial⟩) rfl) ?_
 refine z0a (z06 (u':=vlst (List.map z0z [(z0o.mk [113] [112] 0 0 [(z01.mk 1 2000)] 0 0 false)])) (z1w [_] x82 ⟨rfl,.inr rfl,rfl,trivial⟩ rfl rfl) rfl) ?_
 refine z0a (z06 (u':=vagg (z1d (z0g.mk ([(z0m.mk [112] [])]) ([(z0o.mk [113] [112] 0 0 [(z01.mk 1 2000)] 0 0 false)])))) (z3k [(0,[vlst (List.map z0u ([(z0m.mk [112] [])]))]),(1,[vlst (List.map z0z ([(z0o.mk [113] [112] 0 0 [(z01.mk 1 2000)] 0 0 false)]))])] y59 w43 rfl ⟨rfl,.inl ⟨_,rfl,rfl,rfl⟩,rfl,rfl,.inl ⟨_,rfl,rfl,rfl⟩,rfl,trivial⟩) rfl) ?_
 refine z0f (z1h 1 y59 rfl) rfl ?_
 refine z0f (z02 z5d rfl rfl rfl rfl) rfl ?_
 refine z0c ?_
 refine z0b hN rfl ?_
 refine z0j (z04 z5d rfl rfl rfl) rfl ?_
 obtain ⟨r1,h2,H⟩:=bnd H
 refine z0a (z0x (x0w (z0g.mk ([(z0m.mk [112] [])]) ([(z0o.mk [113] [112] 0 0 [(z01.mk 1 2000)] 0 0 false)])) [113] 3 r1 h2) ⟨.inl rfl,.inl rfl,.inl rfl,trivial⟩) ?_
 refine qd rfl ?_
 refine z0a (z11 rfl rfl) ?_
 refine z0a (z11 rfl rfl) ?_
 refine qe rfl ?_
 refine qe rfl ?_
 refine z0c ?_
 refine z0b hN rfl ?_
 refine qd rfl ?_
 refine z0a (z12 rfl rfl) ?_
 refine qd rfl ?_
 refine z4w rfl rfl (fun hc=>z0k (.dat _) rfl) ?_
 refine z4w rfl rfl (fun hc=>z12 (cnd (c:=(decide (r1.2=0))) hc) rfl) ?_
 refine z0a (z2z rfl (fun hb=>(cnd (c:=(decide (r1.2=0))) hb)) rfl) ?_
 refine qe rfl ?_
 refine z0r ?_
 cases H
 exact ⟨trivial,.inl rfl,trivial⟩
theorem y5u (v1:(List Int)) (r:(Bool)) (H:z8v v1=some r):Fn Tryz.prog 3 [vlst (List.map z3o v1)] (z1x [z1e r]):=by
 refine ⟨by kernel_rfl,z1k (us:=[z1e r]) Tryz.func3 rfl rfl rfl rfl fun X hN => ?_⟩
 unfold z8v at H
 refine z0c ?_
 refine z0b hN rfl ?_
 refine qe rfl ?_
 refine z0c ?_
 refine z0b hN rfl ?_
 refine qd rfl ?_
 refine z0a (z06 (u':=vagg (z0v (z0d.mk v1 0))) (z3k [(0,[vlst (List.map z3o v1)])] w72 w78 rfl ⟨rfl,.inl ⟨_,rfl,rfl,rfl⟩,rfl,trivial⟩) rfl) ?_
 refine z0f (z2h 1 rfl) rfl ?_
 refine z0a (z1j (.ptr _ _) rfl) ?_
 refine z0c ?_
 refine z0b hN rfl ?_
 refine z0a (z0k (.ptr _ _) rfl) ?_
 refine z0a (z0k (.ptr _ _) rfl) ?_
 obtain ⟨r2,h3,H⟩:=bnd H
 refine z0f (z1i (z6r (z0d.mk v1 0) 0 12 r2 h3) rfl ⟨.inl rfl,.inl rfl,trivial⟩ rfl) rfl ?_
 obtain ⟨r4,h5,H⟩:=bnd H
 refine z0f (z1i (y8g r2.2 r2.1 r4 h5) rfl ⟨.inl rfl,trivial⟩ rfl) rfl ?_
 refine qd rfl ?_
 refine z0a (z11 rfl rfl) ?_
 refine z0a (z11 rfl rfl) ?_
 refine z0a (z11 rfl rfl) ?_
 refine z0a (z11 rfl rfl) ?_
 refine z0f (z1h 2 y59 rfl) rfl ?_
 refine z0f (z02 z5d rfl rfl rfl rfl) rfl ?_
 refine qe rfl ?_
 refine qe rfl ?_
 refine qe rfl ?_
 refine z0c ?_
 refine z0b hN rfl ?_
 refine z0a (z0k (.ptr _ _) rfl) ?_
 obtain ⟨r6,h7,H⟩:=bnd H
 refine z0f (z1i (y2o r4.2.2.2.2 r6 h7) rfl trivial rfl) rfl ?_
 refine z0a (z0k (.ptr _ _) rfl) ?_
 obtain ⟨r8,h9,H⟩:=bnd H
 refine z0f (z1i (y1n r6.2 r8 h9) rfl trivial rfl) rfl ?_
 refine z0a (z0k (.ptr _ _) rfl) ?_
 obtain ⟨r10,h11,H⟩:=bnd H
 refine z0f (z1i (y3y r8.2 r10 h11) rfl trivial rfl) rfl ?_
 refine qe rfl ?_
 refine qe rfl ?_
 refine qe rfl ?_
 refine z0c ?_
 refine z0b hN rfl ?_
 refine z0j (z04 z5d rfl rfl rfl) rfl ?_
 refine qd rfl ?_
 refine qd rfl ?_
 refine qd rfl ?_
 refine qd rfl ?_
 refine qd rfl ?_
 obtain ⟨r12,h13,H⟩:=bnd H
 refine z0a (z0x (x0v r4.1 r4.2.1 r4.2.2.1 r6.1 r8.1 r10.1 r12 h13) ⟨.inl rfl,.inl rfl,.inl rfl,.inl rfl,.inl rfl,.inl rfl,trivial⟩) ?_
 refine qd rfl ?_
 refine z0a (z11 rfl rfl) ?_
 refine z0a (z11 rfl rfl) ?_
 refine z0f (z1h 3 y3h rfl) rfl ?_
 refine z0f (z02 z4h rfl rfl rfl rfl) rfl ?_
 refine qe rfl ?_
 refine z0c ?_
 refine z0b hN rfl ?_
 refine z0j (z04 z5d rfl rfl rfl) rfl ?_
 refine qd rfl ?_
 refine qd rfl ?_
 refine qd rfl ?_
 obtain ⟨r14,h15,H⟩:=bnd H
 refine z0a (z0x (y81 r4.1 r4.2.1 r4.2.2.1 r10.1 r14 h15) ⟨.inl rfl,.inl rfl,.inl rfl,.inl rfl,trivial⟩) ?_
 refine qd rfl ?_
 refine z0a (z11 rfl rfl) ?_
 refine z0a (z11 rfl rfl) ?_
 refine qe rfl ?_
 refine qe rfl ?_
 refine z0c ?_
 refine z0b hN rfl ?_
 refine z0j (z04 z5d rfl rfl rfl) rfl ?_
 refine qd rfl ?_
 refine qd rfl ?_
 refine qd rfl ?_
 refine qd rfl ?_
 obtain ⟨r16,h17,H⟩:=bnd H
 refine z0a (z0x (y98 r4.1 r4.2.1 r4.2.2.1 r6.1 r10.1 r16 h17) ⟨.inl rfl,.inl rfl,.inl rfl,.inl rfl,.inl rfl,trivial⟩) ?_
 refine qd rfl ?_
 refine z0a (z11 rfl rfl) ?_
 refine z0a (z11 rfl rfl) ?_
 refine qe rfl ?_
 refine qe rfl ?_
 refine z1a (ι:=Int) (fun i=>[(4,.ptr 2 0),(5,.dat (vlst (List.map z1l r4.2.1))),(6,.dat (vlst (List.map z0w r4.2.2.1))),(7,.dat (vint r4.2.2.2.1)),(8,.dat (vstr r6.1)),(9,.dat (vstr r8.1)),(10,.dat (vint r10.1)),(11,.ptr 3 0),(12,.dat (vint r12.2)),(13,.dat (vlst (List.map z3o r14.1))),(14,.dat (vint r14.2)),(15,.dat (vlst (List.map z00 r16.1))),(16,.dat (vint r16.2)),(17,.dat (vint i))]) (fun i=>[(2,.box none 29 [.dat (vlst (List.map z0u r4.1.Products)),.dat (vlst (List.map z0z r4.1.Plans))]),(3,.box none 39 [.dat (vint r12.1.State),.dat (vstr r12.1.Plan),.dat (vint r12.1.Since),.dat (vint r12.1.First)])]) (fun i=>z39 r4 r6 r8 r10 r12 r14 r16 i=some r) (fun i=>rfl) ?_ ?_
 ·skip
  refine z0b hN rfl ?_
  refine qd rfl ?_
  refine qd rfl ?_
  refine qd rfl ?_
  obtain ⟨r18,h19,H⟩:=bnd H
  refine z0a (z0x (y3x r4.2.1 r6.1 r18 h19) ⟨.inl rfl,.inl rfl,trivial⟩) ?_
  refine z0a (z05 rfl rfl) ?_
  refine qd rfl ?_
  refine z19 (j:=5) rfl rfl (fun h20 => ?_) (fun h20 => ?_) rfl
  ·have h21:=un3 h20
   replace H:=iff_ h21 H
   refine z7k rfl rfl h20 (z04 z5d rfl rfl rfl) rfl ?_
   refine z03 rfl rfl h20 (z0k (.dat _) rfl) ?_
   obtain ⟨r22,h23,H⟩:=bnd H
   refine z03 rfl rfl h20 (z0x (y2a r4.1 r8.1 r22 h23) ⟨.inl rfl,.inl rfl,trivial⟩) ?_
   refine z03 rfl rfl h20 (z05 rfl rfl) ?_
   refine z0a (z1b rfl (bFF h21) rfl) ?_
   obtain ⟨r24,h25,H⟩:=bnd H
   refine z0a (z0x (y2z (decide (r22 < 0)) 8 r24 h25) ⟨.inl rfl,.inl rfl,trivial⟩) ?_
   refine qd rfl ?_
   obtain ⟨r26,h27,H⟩:=bnd H
   refine z0a (z0x (z9k r10.1 r26 h27) ⟨.inl rfl,trivial⟩) ?_
   refine z0a (z06 (u':=vlst (List.map y3c [r4.2.2.2.1,r24,r26])) (z1w [[_],[_],[_]] w2g ⟨rfl,.inl ⟨_,rfl,rfl,rfl⟩,rfl,rfl,.inl ⟨_,rfl,rfl,rfl⟩,rfl,rfl,.inl ⟨_,rfl,rfl,rfl⟩,rfl,trivial⟩ rfl rfl) rfl) ?_
   obtain ⟨r28,h29,H⟩:=bnd H
   refine z0a (z0x (y20 [r4.2.2.2.1,r24,r26] r28 h29) ⟨.inl rfl,trivial⟩) ?_
   refine qe rfl ?_
   exact ⟨r28,H,⟨rfl,rfl,rfl,rfl,rfl,rfl,rfl,rfl,rfl,rfl,rfl,rfl,rfl,rfl,trivial⟩,⟨rfl,rfl,trivial⟩⟩
  ·have h30:=un4 h20
   replace H:=ift h30 H
   refine z0l rfl rfl h20 ?_
   refine z0l rfl rfl h20 ?_
   refine z0l rfl rfl h20 ?_
   refine z0l rfl rfl h20 ?_
   refine z0a (z1p rfl (bTT h30) rfl) ?_
   obtain ⟨r31,h32,H⟩:=bnd H
   refine z0a (z0x (y2z true 8 r31 h32) ⟨.inl rfl,.inl rfl,trivial⟩) ?_
   refine qd rfl ?_
   obtain ⟨r33,h34,H⟩:=bnd H
   refine z0a (z0x (z9k r10.1 r33 h34) ⟨.inl rfl,trivial⟩) ?_
   refine z0a (z06 (u':=vlst (List.map y3c [r4.2.2.2.1,r31,r33])) (z1w [[_],[_],[_]] w2g ⟨rfl,.inl ⟨_,rfl,rfl,rfl⟩,rfl,rfl,.inl ⟨_,rfl,rfl,rfl⟩,rfl,rfl,.inl ⟨_,rfl,rfl,rfl⟩,rfl,trivial⟩ rfl rfl) rfl) ?_
   obtain ⟨r35,h36,H⟩:=bnd H
   refine z0a (z0x (y20 [r4.2.2.2.1,r31,r33] r35 h36) ⟨.inl rfl,trivial⟩) ?_
   refine qe rfl ?_
   exact ⟨r35,H,⟨rfl,rfl,rfl,rfl,rfl,rfl,rfl,rfl,rfl,rfl,rfl,rfl,rfl,rfl,trivial⟩,⟨rfl,rfl,trivial⟩⟩
 ·rintro v37 H
  replace H:z39 r4 r6 r8 r10 r12 r14 r16 v37=some r:=H
  unfold z39 at H
  refine z0c ?_
  refine z0b hN rfl ?_
  refine qd rfl ?_
  refine qd rfl ?_
  obtain ⟨r38,h39,H⟩:=bnd H
  refine z0a (z0x (z9k r10.1 r38 h39) ⟨.inl rfl,trivial⟩) ?_
  refine z0a (z06 (u':=vlst (List.map y3c [r4.2.2.2.1,r38])) (z1w [[_],[_]] w2g ⟨rfl,.inl ⟨_,rfl,rfl,rfl⟩,rfl,rfl,.inl ⟨_,rfl,rfl,rfl⟩,rfl,trivial⟩ rfl rfl) rfl) ?_
  obtain ⟨r40,h41,H⟩:=bnd H
  refine z0a (z0x (y20 [r4.2.2.2.1,r38] r40 h41) ⟨.inl rfl,trivial⟩) ?_
  refine qe rfl ?_
  refine z0c ?_
  refine z0b hN rfl ?_
  refine qd rfl ?_
  refine qd rfl ?_
  refine qd rfl ?_
  obtain ⟨r42,h43,H⟩:=bnd H
  refine z0a (z0x (y3x r4.2.1 r6.1 r42 h43) ⟨.inl rfl,.inl rfl,trivial⟩) ?_
  refine z0a (z05 rfl rfl) ?_
  obtain ⟨r44,h45,H⟩:=bnd H
  refine z0a (z0x (y2z (decide (r42 < 0)) 8 r44 h45) ⟨.inl rfl,.inl rfl,trivial⟩) ?_
  refine qd rfl ?_
  obtain ⟨r46,h47,H⟩:=bnd H
  refine z0a (z0x (z9k r10.1 r46 h47) ⟨.inl rfl,trivial⟩) ?_
  refine z0a (z06 (u':=vlst (List.map y3c [r4.2.2.2.1,r44,r46])) (z1w [[_],[_],[_]] w2g ⟨rfl,.inl ⟨_,rfl,rfl,rfl⟩,rfl,rfl,.inl ⟨_,rfl,rfl,rfl⟩,rfl,rfl,.inl ⟨_,rfl,rfl,rfl⟩,rfl,trivial⟩ rfl rfl) rfl) ?_
  obtain ⟨r48,h49,H⟩:=bnd H
  refine z0a (z0x (y20 [r4.2.2.2.1,r44,r46] r48 h49) ⟨.inl rfl,trivial⟩) ?_
  refine qe rfl ?_
  refine z0c ?_
  refine z0b hN rfl ?_
  refine z0f (z1h 4 y3h rfl) rfl ?_
  refine z0c ?_
  refine z0b hN rfl ?_
  refine qe rfl ?_
  refine z0c ?_
  refine z0b hN rfl ?_
  refine qe rfl ?_
  refine z1a (ι:=Int×Bs×Int×Int) (fun i=>[(4,.ptr 2 0),(6,.dat (vlst (List.map z0w r4.2.2.1))),(8,.dat (vstr r6.1)),(10,.dat (vint r10.1)),(11,.ptr 3 0),(12,.dat (vint r12.2)),(13,.dat (vlst (List.map z3o r14.1))),(14,.dat (vint r14.2)),(15,.dat (vlst (List.map z00 r16.1))),(16,.dat (vint r16.2)),(17,.dat (vint v37)),(18,.dat (vint r40)),(19,.dat (vint r48)),(20,.ptr 4 0),(21,.dat (vnil)),(22,.dat (vnil))]) (fun i=>[(2,.box none 29 [.dat (vlst (List.map z0u r4.1.Products)),.dat (vlst (List.map z0z r4.1.Plans))]),(3,.box none 39 [.dat (vint r12.1.State),.dat (vstr r12.1.Plan),.dat (vint r12.1.Since),.dat (vint r12.1.First)]),(4,.box none 39 [.dat (vint i.1),.dat (vstr i.2.1),.dat (vint i.2.2.1),.dat (vint i.2.2.2)])]) (fun i=>z2y r4 r6 r10 r12 r14 r16 v37 r40 r48 i.1 i.2.1 i.2.2.1 i.2.2.2=some r) (fun i=>rfl) ?_ ?_
  ·skip
   refine z0c ?_
   refine z0b hN rfl ?_
   refine qd rfl ?_
   refine z0a (z12 rfl rfl) ?_
   refine z0i _ rfl (fun h50 => ?_) (fun h50 => ?_)
   ·replace H:=ift h50 H
    refine z0b hN rfl ?_
    refine z0j (z04 z5d rfl rfl rfl) rfl ?_
    refine qd rfl ?_
    refine qd rfl ?_
    refine qd rfl ?_
    refine qd rfl ?_
    obtain ⟨r51,h52,H⟩:=bnd H
    refine z0a (z0x (y3w r4.1 r4.2.2.1 r6.1 r8.1 r10.1 r51 h52) ⟨.inl rfl,.inl rfl,.inl rfl,.inl rfl,.inl rfl,trivial⟩) ?_
    refine z0f (z02 z4h rfl rfl rfl rfl) rfl ?_
    exact ⟨(r51.State,r51.Plan,r51.Since,r51.First),H,⟨rfl,rfl,rfl,rfl,rfl,rfl,rfl,rfl,rfl,rfl,rfl,rfl,rfl,rfl,rfl,rfl,trivial⟩,⟨rfl,rfl,rfl,trivial⟩⟩
   ·replace H:=iff_ h50 H
    refine z0s ?_
    exact ⟨(0,[],0,0),H,⟨rfl,rfl,rfl,rfl,rfl,rfl,rfl,rfl,rfl,rfl,rfl,rfl,rfl,rfl,rfl,rfl,trivial⟩,⟨rfl,rfl,rfl,trivial⟩⟩
  ·rintro ⟨c53,c54,c55,c56⟩ H
   replace H:z2y r4 r6 r10 r12 r14 r16 v37 r40 r48 c53 c54 c55 c56=some r:=H
   unfold z2y at H
   refine x4n (ι:=(List Int)) (fun i=>[(4,.ptr 2 0),(6,.dat (vlst (List.map z0w r4.2.2.1))),(8,.dat (vstr r6.1)),(10,.dat (vint r10.1)),(11,.ptr 3 0),(12,.dat (vint r12.2)),(13,.dat (vlst (List.map z3o r14.1))),(14,.dat (vint r14.2)),(15,.dat (vlst (List.map z00 r16.1))),(16,.dat (vint r16.2)),(17,.dat (vint v37)),(18,.dat (vint r40)),(19,.dat (vint r48)),(20,.ptr 4 0),(21,.dat (vlst (List.map z3o i))),(22,.dat (vnil))]) (fun i=>[(2,.box none 29 [.dat (vlst (List.map z0u r4.1.Products)),.dat (vlst (List.map z0z r4.1.Plans))]),(3,.box none 39 [.dat (vint r12.1.State),.dat (vstr r12.1.Plan),.dat (vint r12.1.Since),.dat (vint r12.1.First)]),(4,.box none 39 [.dat (vint c53),.dat (vstr c54),.dat (vint c55),.dat (vint c56)])]) (fun i=>z2x r4 r6 r10 r12 r14 r16 v37 r40 r48 c53 c54 c55 c56 i=some r) (fun i=>rfl) (fun i=>rfl) ?_ ?_
   ·skip
    refine z0c ?_
    refine z0b hN rfl ?_
    refine qd rfl ?_
    refine z0a (z12 rfl rfl) ?_
    refine z0i _ rfl (fun h57 => ?_) (fun h57 => ?_)
    ·replace H:=ift h57 H
     refine z0b hN rfl ?_
     refine z0j (z04 z5d rfl rfl rfl) rfl ?_
     refine qd rfl ?_
     refine qd rfl ?_
     obtain ⟨r58,h59,H⟩:=bnd H
     refine z0a (z0x (y60 r4.1 r4.2.2.1 r10.1 r58 h59) ⟨.inl rfl,.inl rfl,.inl rfl,trivial⟩) ?_
     refine qe rfl ?_
     exact ⟨r58,H,⟨.inl rfl,.inl rfl,.inl rfl,.inl rfl,.inl rfl,.inl rfl,.inl rfl,.inl rfl,.inl rfl,.inl rfl,.inl rfl,.inl rfl,.inl rfl,.inl rfl,.inl rfl,.inl rfl,trivial⟩,⟨rfl,rfl,rfl,trivial⟩⟩
    ·replace H:=iff_ h57 H
     refine z0s ?_
     exact ⟨[],H,⟨.inl rfl,.inl rfl,.inl rfl,.inl rfl,.inl rfl,.inl rfl,.inl rfl,.inl rfl,.inl rfl,.inl rfl,.inl rfl,.inl rfl,.inl rfl,.inl rfl,.inr ⟨rfl,rfl⟩,.inl rfl,trivial⟩,⟨rfl,rfl,rfl,trivial⟩⟩
   ·rintro v60 H
    replace H:z2x r4 r6 r10 r12 r14 r16 v37 r40 r48 c53 c54 c55 c56 v60=some r:=H
    unfold z2x at H
    refine x4n (ι:=Int×(List Bs)) (fun i=>[(11,.ptr 3 0),(12,.dat (vint r12.2)),(13,.dat (vlst (List.map z3o r14.1))),(14,.dat (vint r14.2)),(15,.dat (vlst (List.map z00 r16.1))),(16,.dat (vint r16.2)),(17,.dat (vint v37)),(18,.dat (vint r40)),(19,.dat (vint i.1)),(20,.ptr 4 0),(21,.dat (vlst (List.map z3o v60))),(22,.dat (vlst (List.map z00 i.2)))]) (fun i=>[(3,.box none 39 [.dat (vint r12.1.State),.dat (vstr r12.1.Plan),.dat (vint r12.1.Since),.dat (vint r12.1.First)]),(4,.box none 39 [.dat (vint c53),.dat (vstr c54),.dat (vint c55),.dat (vint c56)])]) (fun i=>z38 r12 r14 r16 v37 r40 c53 c54 c55 c56 v60 i.1 i.2=some r) (fun i=>rfl) (fun i=>rfl) ?_ ?_
    ·skip
     refine z0c ?_
     refine z0b hN rfl ?_
     refine qd rfl ?_
     refine z0a (z12 rfl rfl) ?_
     refine z0i _ rfl (fun h61 => ?_) (fun h61 => ?_)
     ·replace H:=ift h61 H
      refine z0b hN rfl ?_
      refine z0j (z04 z5d rfl rfl rfl) rfl ?_
      refine qd rfl ?_
      refine qd rfl ?_
      refine qd rfl ?_
      obtain ⟨r62,h63,H⟩:=bnd H
      refine z0a (z0x (y7e r4.1 r4.2.2.1 r6.1 r10.1 r62 h63) ⟨.inl rfl,.inl rfl,.inl rfl,.inl rfl,trivial⟩) ?_
      refine qd rfl ?_
      refine z0a (z11 rfl rfl) ?_
      refine z0a (z11 rfl rfl) ?_
      refine qe rfl ?_
      refine qe rfl ?_
      exact ⟨(r62.2,r62.1),H,⟨.inl rfl,.inl rfl,.inl rfl,.inl rfl,.inl rfl,.inl rfl,.inl rfl,.inl rfl,.inl rfl,.inl rfl,.inl rfl,.inl rfl,trivial⟩,⟨rfl,rfl,trivial⟩⟩
     ·replace H:=iff_ h61 H
      refine z0s ?_
      exact ⟨(r48,[]),H,⟨.inl rfl,.inl rfl,.inl rfl,.inl rfl,.inl rfl,.inl rfl,.inl rfl,.inl rfl,.inl rfl,.inl rfl,.inl rfl,.inr ⟨rfl,rfl⟩,trivial⟩,⟨rfl,rfl,trivial⟩⟩
    ·rintro ⟨v64,v65⟩ H
     replace H:z38 r12 r14 r16 v37 r40 c53 c54 c55 c56 v60 v64 v65=some r:=H
     unfold z38 at H
     refine z1a (ι:=Bool) (fun i=>[(2,.dat (z1e i))]) (fun i=>[]) (fun i=>z2e i=some r) (fun i=>rfl) ?_ ?_
     ·skip
      refine z0b hN rfl ?_
      refine qd rfl ?_
      refine qd rfl ?_
      refine z0a (z12 rfl rfl) ?_
      refine qd rfl ?_
      refine z19 (j:=3) rfl rfl (fun h66 => ?_) (fun h66 => ?_) rfl
      ·have h67:=un1 h66
       replace H:=ift h67 H
       refine z7k rfl rfl h66 (z04 z4h rfl rfl rfl) rfl ?_
       refine z7k rfl rfl h66 (z04 z4h rfl rfl rfl) rfl ?_
       refine z03 rfl rfl h66 (w20 [_,_,_,_] [_,_,_,_] w75 rfl rfl rfl) ?_
       refine z0a (z1p rfl (bTT h67) rfl) ?_
       refine qd rfl ?_
       refine z19 (j:=8) rfl rfl (fun h68 => ?_) (fun h68 => ?_) rfl
       ·have h69:=un1 h68
        replace H:=ift h69 H
        refine z03 rfl rfl h68 (z0k (.dat _) rfl) ?_
        refine z03 rfl rfl h68 (z0k (.dat _) rfl) ?_
        refine z03 rfl rfl h68 (z12 rfl rfl) ?_
        refine z0a (z1p rfl (bTT h69) rfl) ?_
        refine qd rfl ?_
        refine z19 (j:=13) rfl rfl (fun h70 => ?_) (fun h70 => ?_) rfl
        ·have h71:=un1 h70
         replace H:=ift h71 H
         refine z03 rfl rfl h70 (z0k (.dat _) rfl) ?_
         refine z03 rfl rfl h70 (z0k (.dat _) rfl) ?_
         obtain ⟨r72,h73,H⟩:=bnd H
         refine z03 rfl rfl h70 (z0x (y42 r14.1 v60 r72 h73) ⟨.inl rfl,.inl rfl,trivial⟩) ?_
         refine z0a (z1p rfl (bTT h71) rfl) ?_
         refine qd rfl ?_
         refine z19 (j:=18) rfl rfl (fun h74 => ?_) (fun h74 => ?_) rfl
         ·have h75:=un1 h74
          replace H:=ift h75 H
          refine z03 rfl rfl h74 (z0k (.dat _) rfl) ?_
          refine z03 rfl rfl h74 (z0k (.dat _) rfl) ?_
          refine z03 rfl rfl h74 (z12 rfl rfl) ?_
          refine z0a (z1p rfl (bTT h75) rfl) ?_
          refine qd rfl ?_
          refine z19 (j:=23) rfl rfl (fun h76 => ?_) (fun h76 => ?_) rfl
          ·have h77:=un1 h76
           replace H:=ift h77 H
           refine z03 rfl rfl h76 (z0k (.dat _) rfl) ?_
           refine z03 rfl rfl h76 (z0k (.dat _) rfl) ?_
           obtain ⟨r78,h79,H⟩:=bnd H
           refine z03 rfl rfl h76 (z0x (y29 r16.1 v65 r78 h79) ⟨.inl rfl,.inl rfl,trivial⟩) ?_
           refine z0a (z1p rfl (bTT h77) rfl) ?_
           refine qd rfl ?_
           refine z19 (j:=28) rfl rfl (fun h80 => ?_) (fun h80 => ?_) rfl
           ·have h81:=un1 h80
            replace H:=ift h81 H
            obtain ⟨r82,h83,H⟩:=bnd H
            refine z03 rfl rfl h80 (z0x (y8f  r82 h83) trivial) ?_
            refine z0a (z1p rfl (bTT h81) rfl) ?_
            refine qe rfl ?_
            exact ⟨r82,H,⟨rfl,trivial⟩,trivial⟩
           ·have h84:=un2 h80
            replace H:=iff_ h84 H
            refine z0l rfl rfl h80 ?_
            refine z0a (z1b rfl (bFF h84) rfl) ?_
            refine qe rfl ?_
            exact ⟨false,H,⟨rfl,trivial⟩,trivial⟩
          ·have h85:=un2 h76
           replace H:=iff_ h85 H
           refine z0l rfl rfl h76 ?_
           refine z0l rfl rfl h76 ?_
           refine z0l rfl rfl h76 ?_
           refine z0a (z1b rfl (bFF h85) rfl) ?_
           refine qd rfl ?_
           refine z0l rfl rfl rfl ?_
           refine z0a (z1b rfl rfl rfl) ?_
           refine qe rfl ?_
           exact ⟨false,H,⟨rfl,trivial⟩,trivial⟩
         ·have h86:=un2 h74
          replace H:=iff_ h86 H
          refine z0l rfl rfl h74 ?_
          refine z0l rfl rfl h74 ?_
          refine z0l rfl rfl h74 ?_
          refine z0a (z1b rfl (bFF h86) rfl) ?_
          refine qd rfl ?_
          refine z0l rfl rfl rfl ?_
          refine z0l rfl rfl rfl ?_
          refine z0l rfl rfl rfl ?_
          refine z0a (z1b rfl rfl rfl) ?_
          refine qd rfl ?_
          refine z0l rfl rfl rfl ?_
          refine z0a (z1b rfl rfl rfl) ?_
          refine qe rfl ?_
          exact ⟨false,H,⟨rfl,trivial⟩,trivial⟩
        ·have h87:=un2 h70
         replace H:=iff_ h87 H
         refine z0l rfl rfl h70 ?_
         refine z0l rfl rfl h70 ?_
         refine z0l rfl rfl h70 ?_
         refine z0a (z1b rfl (bFF h87) rfl) ?_
         refine qd rfl ?_
         refine z0l rfl rfl rfl ?_
         refine z0l rfl rfl rfl ?_
         refine z0l rfl rfl rfl ?_
         refine z0a (z1b rfl rfl rfl) ?_
         refine qd rfl ?_
         refine z0l rfl rfl rfl ?_
         refine z0l rfl rfl rfl ?_
         refine z0l rfl rfl rfl ?_
         refine z0a (z1b rfl rfl rfl) ?_
         refine qd rfl ?_
         refine z0l rfl rfl rfl ?_
         refine z0a (z1b rfl rfl rfl) ?_
         refine qe rfl ?_
         exact ⟨false,H,⟨rfl,trivial⟩,trivial⟩
       ·have h88:=un2 h68
        replace H:=iff_ h88 H
        refine z0l rfl rfl h68 ?_
        refine z0l rfl rfl h68 ?_
        refine z0l rfl rfl h68 ?_
        refine z0a (z1b rfl (bFF h88) rfl) ?_
        refine qd rfl ?_
        refine z0l rfl rfl rfl ?_
        refine z0l rfl rfl rfl ?_
        refine z0l rfl rfl rfl ?_
        refine z0a (z1b rfl rfl rfl) ?_
        refine qd rfl ?_
        refine z0l rfl rfl rfl ?_
        refine z0l rfl rfl rfl ?_
        refine z0l rfl rfl rfl ?_
        refine z0a (z1b rfl rfl rfl) ?_
        refine qd rfl ?_
        refine z0l rfl rfl rfl ?_
        refine z0l rfl rfl rfl ?_
        refine z0l rfl rfl rfl ?_
        refine z0a (z1b rfl rfl rfl) ?_
        refine qd rfl ?_
        refine z0l rfl rfl rfl ?_
        refine z0a (z1b rfl rfl rfl) ?_
        refine qe rfl ?_
        exact ⟨false,H,⟨rfl,trivial⟩,trivial⟩
      ·have h89:=un2 h66
       replace H:=iff_ h89 H
       refine z0l rfl rfl h66 ?_
       refine z0l rfl rfl h66 ?_
       refine z0l rfl rfl h66 ?_
       refine z0a (z1b rfl (bFF h89) rfl) ?_
       refine qd rfl ?_
       refine z0l rfl rfl rfl ?_
       refine z0l rfl rfl rfl ?_
       refine z0l rfl rfl rfl ?_
       refine z0a (z1b rfl rfl rfl) ?_
       refine qd rfl ?_
       refine z0l rfl rfl rfl ?_
       refine z0l rfl rfl rfl ?_
       refine z0l rfl rfl rfl ?_
       refine z0a (z1b rfl rfl rfl) ?_
       refine qd rfl ?_
       refine z0l rfl rfl rfl ?_
       refine z0l rfl rfl rfl ?_
       refine z0l rfl rfl rfl ?_
       refine z0a (z1b rfl rfl rfl) ?_
       refine qd rfl ?_
       refine z0l rfl rfl rfl ?_
       refine z0l rfl rfl rfl ?_
       refine z0l rfl rfl rfl ?_
       refine z0a (z1b rfl rfl rfl) ?_
       refine qd rfl ?_
       refine z0l rfl rfl rfl ?_
       refine z0a (z1b rfl rfl rfl) ?_
       refine qe rfl ?_
       exact ⟨false,H,⟨rfl,trivial⟩,trivial⟩
     ·rintro v90 H
      replace H:z2e v90=some r:=H
      unfold z2e at H
      refine z0r ?_
      cases H
      exact ⟨trivial,.inl rfl,trivial⟩
end Go.Proofs.YticadaaoggpenaaGreatDoor
