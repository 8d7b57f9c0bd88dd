/- The law TopCachesServe: its walk. -/
import Derived.Test.YtahcnngcpjkpgabGreatDoorZwh4
namespace Go.Proofs.YtahcnngcpjkpgabGreatDoor
open Go.RowKit
set_option linter.unusedVariables false
set_option maxRecDepth 100000
set_option maxHeartbeats 4000000
theorem w7t (L:List Int) (r:Bool) (H:y26 L=some r):Fn Tryz.prog 3 [vlst (List.map qx L)] (zr [zi r]):=by
 refine ⟨by kernel_rfl,yf (us:=[zi r]) Tryz.func3 rfl rfl rfl rfl fun X hN => ?_⟩
 unfold y26 at H
 refine zd ?_
 refine zj hN rfl ?_
 refine qe rfl ?_
 refine zd ?_
 refine zj hN rfl ?_
 refine qd rfl ?_
 refine za (yd (u':=vagg (wg (zu.mk L 0))) (qw [(0,[vlst (List.map qx L)])] w0d w0m rfl ⟨rfl,.inl ⟨_,rfl,rfl,rfl⟩,rfl,trivial⟩) rfl) ?_
 refine zl (we 1 rfl) rfl ?_
 refine za (qs (.ptr _ _) rfl) ?_
 refine zd ?_
 refine zj hN rfl ?_
 refine za (ze (.ptr _ _) rfl) ?_
 obtain ⟨ra,h1,H⟩:=bnd H
 refine zl (yu (w7z (zu.mk L 0) ra h1) rfl trivial rfl) rfl ?_
 obtain ⟨wa,h2,H⟩:=bnd H
 refine za (zo (w7b _ wa h2) ⟨.inl rfl,trivial⟩) ?_
 refine qd rfl ?_
 refine za (zz rfl rfl) ?_
 refine za (zz rfl rfl) ?_
 refine qe rfl ?_
 refine qe rfl ?_
 refine zd ?_
 refine zj hN rfl ?_
 refine qd rfl ?_
 obtain ⟨rb,h3,H⟩:=bnd H
 refine za (zo (w7e _ rb h3) ⟨.inl rfl,trivial⟩) ?_
 refine qd rfl ?_
 refine za (zz rfl rfl) ?_
 refine za (zz rfl rfl) ?_
 refine za (zz rfl rfl) ?_
 refine zl (qt 2 vu rfl) rfl ?_
 refine zl (yx qg rfl rfl rfl rfl) rfl ?_
 refine qe rfl ?_
 refine qe rfl ?_
 refine zd ?_
 refine zj hN rfl ?_
 refine za (ze (.ptr _ _) rfl) ?_
 obtain ⟨rq,h4,H⟩:=bnd H
 refine zl (yu (w70 ra.2 0 rq h4) rfl ⟨.inl rfl,trivial⟩ rfl) rfl ?_
 refine zl (qt 3 jm rfl) rfl ?_
 refine zl (yx qa rfl rfl rfl rfl) rfl ?_
 refine zd ?_
 refine zj hN rfl ?_
 refine qk (rn [(1,50)]) [] [(1,_)] w52 ⟨rfl,trivial⟩ ⟨.inl (.inl rfl),.inl (.inl rfl),trivial⟩ trivial rfl ?_
 refine za (ze (.comp _ _) rfl) ?_
 refine za (z4g rfl rfl) ?_
 refine za (z4g rfl rfl) ?_
 refine za (qs (.ptr _ _) rfl) ?_
 refine qe rfl ?_
 refine zd ?_
 refine zd ?_
 refine zj hN rfl ?_
 refine qd rfl ?_
 refine za (yy rfl rfl) ?_
 refine qd rfl ?_
 refine zf rfl rfl rfl (ze (.ptr _ _) rfl) ?_
 refine zf rfl rfl rfl (w1y w0g rfl) ?_
 refine za (zv rfl rfl rfl) ?_
 refine zh false rfl (fun h=>(by cases h)) (fun h => ?_)
 refine zn ?_
 refine zd ?_
 refine zd ?_
 refine zj hN rfl ?_
 refine qd rfl ?_
 refine za (yy rfl rfl) ?_
 refine qd rfl ?_
 refine yp rfl rfl (fun hc=>ze (.dat _) rfl) ?_
 refine yp rfl rfl (fun hc=>yy (cnd (c:=(!(decide (wa.2≠0)))) hc) rfl) ?_
 refine za (wy rfl rfl (fun hb=>(cnd (c:=(!(decide (wa.2≠0)))) (notI hb)))) ?_
 refine zh _ rfl (fun h1 => ?_) (fun h1 => ?_)
 ·replace H:=ift h1 H
  refine zd ?_
  obtain ⟨hq,H⟩:=gif H
  unfold Zf at H
  obtain ⟨h,hh,H⟩:=bnd H
  refine zj hN rfl ?_
  refine qd rfl ?_
  refine za (yd (u':=zi true) (yy rfl rfl) (ju (decide_eq_true hq.1))) ?_
  refine qd rfl ?_
  refine zf rfl rfl rfl (ze (.dat _) rfl) ?_
  refine zf rfl rfl rfl (yd (u':=zi true) (yy rfl rfl) (ju (decide_eq_true hq.2))) ?_
  refine za (ya rfl rfl rfl) ?_
  refine qd rfl ?_
  refine zf rfl rfl rfl (zo (z6d h hh) trivial) ?_
  refine za (ya rfl rfl rfl) ?_
  refine qe rfl ?_
  refine zk ?_
  cases H
  exact ⟨trivial,.inl rfl,trivial⟩
 ·replace H:=iff_ h1 H
  refine zn ?_
  refine zd ?_
  obtain ⟨p,hp,H⟩:=bnd H
  unfold y8g at H
  obtain ⟨⟨ok,e⟩,o⟩:=p
  rcases o with _ | K
  ·obtain ⟨hq,H⟩:=gif H
   obtain rfl:ok=false:=hq
   refine zj hN rfl ?_
   refine za (ze (.ptr _ _) rfl) ?_
   refine zm (yr qa rfl rfl rfl) rfl ?_
   refine zm (yr qg rfl rfl rfl) rfl ?_
   refine qk (rn [(0,50)]) [(0,_,_,none)] [] (x5q 5 100000 0 (by decide) (by decide) rq.1 rb.1 0 _ hp) ⟨rfl,trivial⟩ ⟨.inl (.inl rfl),.inl (.inl rfl),.inl (.inl rfl),.inl (.inl rfl),trivial⟩ ⟨⟨⟨rfl,rfl⟩,trivial⟩,trivial⟩ rfl ?_
   refine qd rfl ?_
   refine za (zz rfl rfl) ?_
   refine za (zz rfl rfl) ?_
   refine qe rfl ?_
   refine qe rfl ?_
   refine zd ?_
   refine zd ?_
   refine zj hN rfl ?_
   refine qd rfl ?_
   refine za (yy rfl rfl) ?_
   refine qd rfl ?_
   refine yp rfl rfl (fun hc=>ze (.dat _) rfl) ?_
   refine yp rfl rfl (fun hc=>yt (cnd (c:=(!(decide (e≠0)))) hc)) ?_
   refine za (yd (u':=zi true) (wy rfl rfl (fun hb=>(cnd (c:=(!(decide (e≠0)))) (notI hb)))) (ju (by simp))) ?_
   refine zh true rfl (fun h => ?_) (fun h=>(by cases h))
   refine zd ?_
   unfold Zf at H
   obtain ⟨h,hh,H⟩:=bnd H
   refine zj hN rfl ?_
   refine za (zo (z6d h hh) trivial) ?_
   refine qe rfl ?_
   refine zk ?_
   cases H
   exact ⟨trivial,.inl rfl,trivial⟩
  ·obtain ⟨hq,H⟩:=gif H
   obtain ⟨rfl,rfl⟩:ok=true∧e=0:=hq
   unfold y8h at H
   refine zj hN rfl ?_
   refine za (ze (.ptr _ _) rfl) ?_
   refine zm (yr qa rfl rfl rfl) rfl ?_
   refine zm (yr qg rfl rfl rfl) rfl ?_
   refine qk (rn [(0,50),(9,51)]) [(0,_,_,some _)] [(9,_)] (x5q 5 100000 0 (by decide) (by decide) rq.1 rb.1 0 _ hp) ⟨rfl,rfl,trivial⟩ ⟨.inl (.inl rfl),.inl (.inl rfl),.inl (.inl rfl),.inl (.inl rfl),trivial⟩ ⟨⟨⟨rfl,rfl⟩,trivial⟩,trivial⟩ rfl ?_
   refine qd rfl ?_
   refine za (zz rfl rfl) ?_
   refine za (zz rfl rfl) ?_
   refine qe rfl ?_
   refine qe rfl ?_
   refine zd ?_
   refine zd ?_
   refine zj hN rfl ?_
   refine qd rfl ?_
   refine za (yy rfl rfl) ?_
   refine qd rfl ?_
   refine zf rfl rfl rfl (ze (.dat _) rfl) ?_
   refine zf rfl rfl rfl (yt rfl) ?_
   refine za (zv rfl rfl rfl) ?_
   refine zh false rfl (fun h=>(by cases h)) (fun h => ?_)
   refine zn ?_
   refine zd ?_
   refine zj hN rfl ?_
   refine zm (yr qa rfl rfl rfl) rfl ?_
   obtain ⟨wt,h5,H⟩:=bnd H
   refine za (zo (w7c _ wt h5) ⟨.inl rfl,trivial⟩) ?_
   refine qd rfl ?_
   refine za (zz rfl rfl) ?_
   refine za (zz rfl rfl) ?_
   refine qe rfl ?_
   refine qe rfl ?_
   refine zd ?_
   refine zj hN rfl ?_
   refine qd rfl ?_
   obtain ⟨rr,h6,H⟩:=bnd H
   refine za (zo (w7f _ rr h6) ⟨.inl rfl,trivial⟩) ?_
   refine qd rfl ?_
   refine za (zz rfl rfl) ?_
   refine za (zz rfl rfl) ?_
   refine za (zz rfl rfl) ?_
   refine zl (qt 4 jm rfl) rfl ?_
   refine zl (yx qa rfl rfl rfl rfl) rfl ?_
   refine qe rfl ?_
   refine qe rfl ?_
   refine zd ?_
   refine zj hN rfl ?_
   refine za (ze (.ptr _ _) rfl) ?_
   refine za (yd (u':=vlst (List.map qx [0,1000,30000])) (qj [[_],[_],[_]] z7r ⟨rfl,.inl ⟨_,rfl,rfl,rfl⟩,rfl,rfl,.inl ⟨_,rfl,rfl,rfl⟩,rfl,rfl,.inl ⟨_,rfl,rfl,rfl⟩,rfl,trivial⟩ rfl rfl) rfl) ?_
   obtain ⟨pk,h7,H⟩:=bnd H
   refine zl (yu (y87 rq.2 [0,1000,30000] pk h7) rfl ⟨.inl rfl,trivial⟩ rfl) rfl ?_
   refine za (zq z1h rfl) ?_
   refine zl (jn tyS3 rfl rfl rfl rfl) rfl ?_
   refine zd ?_
   refine zj hN rfl ?_
   refine za (ze (.ptr _ _) rfl) ?_
   refine zm (yr qa rfl rfl rfl) rfl ?_
   obtain ⟨g,h8,H⟩:=bnd H
   refine qk (rn [(0,50),(1,51),(3,52)]) [(0,_,_,none),(1,_,_,none)] [(3,_)] (w55 5 100000 0 K _ g h8) ⟨rfl,rfl,rfl,trivial⟩ ⟨.inl (.inl rfl),.inl (.inl rfl),trivial⟩ ⟨⟨⟨rfl,rfl⟩,trivial⟩,⟨⟨rfl,rfl⟩,trivial⟩,trivial⟩ rfl ?_
   refine qd rfl ?_
   refine za (zz rfl rfl) ?_
   refine za (zz rfl rfl) ?_
   refine za (zz rfl rfl) ?_
   refine zl (qt 5 vu rfl) rfl ?_
   refine qe rfl ?_
   refine zl (yx qg rfl rfl rfl rfl) rfl ?_
   refine qe rfl ?_
   refine zd ?_
   refine zd ?_
   obtain ⟨hq2,H⟩:=gif H
   refine zj hN rfl ?_
   refine qd rfl ?_
   refine za (yd (u':=zi false) (yy rfl rfl) (ju (decide_eq_false (by simp [hq2.1])))) ?_
   refine qd rfl ?_
   refine zf rfl rfl rfl (ze (.dat _) rfl) ?_
   refine zf rfl rfl rfl (yd (u':=zi false) (yy rfl rfl) (ju (decide_eq_false (by simp [hq2.2])))) ?_
   refine za (zv rfl rfl rfl) ?_
   refine zh false rfl (fun h=>(by cases h)) (fun h => ?_)
   refine zn ?_
   refine zd ?_
   refine zd ?_
   refine zj hN rfl ?_
   refine qd rfl ?_
   refine za (yy rfl rfl) ?_
   refine zh _ rfl (fun h2 => ?_) (fun h2 => ?_)
   ·replace H:=ift h2 H
    refine zd ?_
    obtain ⟨hq3,H⟩:=gif H
    unfold Zf at H
    obtain ⟨h,hh,H⟩:=bnd H
    refine zj hN rfl ?_
    refine qd rfl ?_
    refine za (yd (u':=zi true) (yq rfl rfl) (ju (decide_eq_true hq3))) ?_
    refine qd rfl ?_
    refine zf rfl rfl rfl (zo (z6d h hh) trivial) ?_
    refine za (ya rfl rfl rfl) ?_
    refine qe rfl ?_
    refine zk ?_
    cases H
    exact ⟨trivial,.inl rfl,trivial⟩
   ·replace H:=iff_ h2 H
    refine zn ?_
    refine zd ?_
    refine zd ?_
    refine zj hN rfl ?_
    refine qd rfl ?_
    refine za (yy rfl rfl) ?_
    refine qd rfl ?_
    refine ql rfl rfl (fun hc=>ze (.dat _) rfl) ?_
    refine ql rfl rfl (fun hc=>yy (cnd (c:=(decide (g.1≠1))) hc) rfl) ?_
    refine za (wz rfl (fun hb=>(cnd (c:=(decide (g.1≠1))) hb)) rfl) ?_
    refine zh _ rfl (fun h3 => ?_) (fun h3 => ?_)
    ·replace H:=ift h3 H
     refine zd ?_
     unfold Zf at H
     obtain ⟨h,hh,H⟩:=bnd H
     refine zj hN rfl ?_
     refine za (zo (z6d h hh) trivial) ?_
     refine qe rfl ?_
     refine zk ?_
     cases H
     exact ⟨trivial,.inl rfl,trivial⟩
    ·replace H:=iff_ h3 H
     refine zn ?_
     refine zd ?_
     unfold y8i at H
     refine zj hN rfl ?_
     refine za (zq kq rfl) ?_
     refine zm (zt qu rfl rfl) rfl ?_
     obtain ⟨pl,h9,H⟩:=bnd H
     refine za (zo (x6c _ _ pl h9) ⟨.inl rfl,.inl rfl,trivial⟩) ?_
     refine qd rfl ?_
     refine za (zz rfl rfl) ?_
     refine za (zz rfl rfl) ?_
     refine qe rfl ?_
     refine qe rfl ?_
     refine zd ?_
     refine zj hN rfl ?_
     refine za (zq kq rfl) ?_
     refine zm (zt qu rfl rfl) rfl ?_
     obtain ⟨wn,h10,H⟩:=bnd H
     refine za (zo (x6c _ _ wn h10) ⟨.inl rfl,.inl rfl,trivial⟩) ?_
     refine qd rfl ?_
     refine za (zz rfl rfl) ?_
     refine za (zz rfl rfl) ?_
     refine qe rfl ?_
     refine qe rfl ?_
     refine zd ?_
     obtain ⟨eq,heq,H⟩:=bnd H
     have hq4:=(gif H).1
     replace H:=(gif H).2
     obtain rfl:eq=true:=hq4.2.1
     unfold Zf at H
     obtain ⟨h,hh,H⟩:=bnd H
     rcases Decidable.em (rq.1.Method=z6p) with hM | hM
     ·skip
      refine zj hN rfl ?_
      refine qd rfl ?_
      refine za (yd (u':=zi true) (yq rfl rfl) (ju (decide_eq_true hq4.1.1))) ?_
      refine qd rfl ?_
      refine zf rfl rfl rfl (ze (.dat _) rfl) ?_
      refine zf rfl rfl rfl (yd (u':=zi true) (yq rfl rfl) (ju (decide_eq_true hq4.1.2))) ?_
      refine za (ya rfl rfl rfl) ?_
      refine qd rfl ?_
      refine zf rfl rfl rfl (ze (.dat _) rfl) ?_
      refine zf rfl rfl rfl (ze (.dat _) rfl) ?_
      refine zf rfl rfl rfl (zo (x5y pl.1 wn.1 true heq) ⟨.inl rfl,.inl rfl,trivial⟩) ?_
      refine za (ya rfl rfl rfl) ?_
      refine qd rfl ?_
      refine zf rfl rfl rfl (zq xr rfl) ?_
      refine vc rfl rfl rfl (zt tyS3 rfl rfl) rfl ?_
      refine zf rfl rfl rfl (zq xr rfl) ?_
      refine vc rfl rfl rfl (zt tyS3 rfl rfl) rfl ?_
      refine zf rfl rfl rfl (yd (u':=zi true) (yq rfl rfl) (ju (decide_eq_true hq4.2.2.1))) ?_
      refine za (ya rfl rfl rfl) ?_
      refine qd rfl ?_
      refine zf rfl rfl rfl (zq ul rfl) ?_
      refine vc rfl rfl rfl (zt tyS9 rfl rfl) rfl ?_
      refine zf rfl rfl rfl (yd (u':=zi true) (vi rfl rfl) (ju (decide_eq_true hM))) ?_
      refine zf rfl rfl rfl (ze (.dat _) rfl) ?_
      refine zc rfl rfl rfl ?_
      refine zc rfl rfl rfl ?_
      refine zc rfl rfl rfl ?_
      refine zc rfl rfl rfl ?_
      refine zc rfl rfl rfl ?_
      refine zf rfl rfl rfl (ya rfl rfl rfl) ?_
      refine za (ya rfl rfl rfl) ?_
      refine qd rfl ?_
      refine zf rfl rfl rfl (zo (z6d h hh) trivial) ?_
      refine za (ya rfl rfl rfl) ?_
      refine qe rfl ?_
      refine zk ?_
      cases H
      exact ⟨trivial,.inl rfl,trivial⟩
     ·skip
      refine zj hN rfl ?_
      refine qd rfl ?_
      refine za (yd (u':=zi true) (yq rfl rfl) (ju (decide_eq_true hq4.1.1))) ?_
      refine qd rfl ?_
      refine zf rfl rfl rfl (ze (.dat _) rfl) ?_
      refine zf rfl rfl rfl (yd (u':=zi true) (yq rfl rfl) (ju (decide_eq_true hq4.1.2))) ?_
      refine za (ya rfl rfl rfl) ?_
      refine qd rfl ?_
      refine zf rfl rfl rfl (ze (.dat _) rfl) ?_
      refine zf rfl rfl rfl (ze (.dat _) rfl) ?_
      refine zf rfl rfl rfl (zo (x5y pl.1 wn.1 true heq) ⟨.inl rfl,.inl rfl,trivial⟩) ?_
      refine za (ya rfl rfl rfl) ?_
      refine qd rfl ?_
      refine zf rfl rfl rfl (zq xr rfl) ?_
      refine vc rfl rfl rfl (zt tyS3 rfl rfl) rfl ?_
      refine zf rfl rfl rfl (zq xr rfl) ?_
      refine vc rfl rfl rfl (zt tyS3 rfl rfl) rfl ?_
      refine zf rfl rfl rfl (yd (u':=zi true) (yq rfl rfl) (ju (decide_eq_true hq4.2.2.1))) ?_
      refine za (ya rfl rfl rfl) ?_
      refine qd rfl ?_
      refine zf rfl rfl rfl (zq ul rfl) ?_
      refine vc rfl rfl rfl (zt tyS9 rfl rfl) rfl ?_
      refine zf rfl rfl rfl (yd (u':=zi false) (vi rfl rfl) (ju (decide_eq_false hM))) ?_
      refine zf rfl rfl rfl (ze (.dat _) rfl) ?_
      refine zf rfl rfl rfl (zq z1i rfl) ?_
      refine vc rfl rfl rfl (zt tyS9 rfl rfl) rfl ?_
      refine zf rfl rfl rfl (zq z1i rfl) ?_
      refine vc rfl rfl rfl (zt tyS9 rfl rfl) rfl ?_
      refine zf rfl rfl rfl (yd (u':=zi true) (vi rfl rfl) (ju (decide_eq_true (hq4.2.2.2.resolve_left hM)))) ?_
      refine zf rfl rfl rfl (zv rfl rfl rfl) ?_
      refine za (ya rfl rfl rfl) ?_
      refine qd rfl ?_
      refine zf rfl rfl rfl (zo (z6d h hh) trivial) ?_
      refine za (ya rfl rfl rfl) ?_
      refine qe rfl ?_
      refine zk ?_
      cases H
      exact ⟨trivial,.inl rfl,trivial⟩
end Go.Proofs.YtahcnngcpjkpgabGreatDoor
