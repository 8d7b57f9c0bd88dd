/- The cache of at most one entry: Put. -/
import Derived.Test.YtahcnngcpjkpgabGreatDoorZwh2
namespace Go.Proofs.YtahcnngcpjkpgabGreatDoor
open Go.RowKit
set_option linter.unusedVariables false
set_option maxRecDepth 100000
set_option maxHeartbeats 2000000
theorem x5q (m s n:Int) (hm:1≤m) (hs:1≤s∧s≤10000000) (r:zw) (a:yb) (at_:Int) (x:(Bool×Int)×Option wx) (H:z9o n s r a at_=some x):FnG Tryz.prog 10 [.ptr 0 0,.dat (vagg (qq r)),.dat (vagg (qf a)),.dat (vint at_)] [(0,jq (some 0) m s n (.dat vnil))] (.dat (zr [zi x.1.1,vint x.1.2])) (w4l m s at_ x.2):=by
 refine vy (by kernel_rfl) Tryz.func10 rfl rfl rfl rfl fun X A hN => ?_
 unfold z9o at H
 refine zd ?_
 refine zj hN rfl ?_
 refine zl (we 1 rfl) rfl ?_
 refine zl (we 2 rfl) rfl ?_
 refine qe rfl ?_
 refine qe rfl ?_
 refine zd ?_
 refine zd ?_
 refine zj hN rfl ?_
 refine zm (yr qa rfl rfl rfl) rfl ?_
 obtain ⟨e1,h1,H⟩:=bnd H
 refine za (zo (z9u _ e1 h1) ⟨.inl rfl,trivial⟩) ?_
 refine qe rfl ?_
 refine zd ?_
 refine zj hN rfl ?_
 refine qd rfl ?_
 refine za (yy rfl rfl) ?_
 refine zh _ rfl (fun h1 => ?_) (fun h1 => ?_)
 ·replace H:=ift h1 H
  refine zd ?_
  refine zj hN rfl ?_
  refine qd rfl ?_
  refine qe rfl ?_
  refine qe rfl ?_
  refine zk ?_
  cases H
  exact ⟨trivial,[(8,.dat (zi false)),(9,.dat (vint e1))],⟨rfl,rfl,trivial⟩,trivial,rfl,.inl ⟨[zi false,vint e1],⟨rfl,rfl,trivial⟩,rfl⟩⟩
 ·replace H:=iff_ h1 H
  refine zn ?_
  refine zd ?_
  refine zd ?_
  refine zj hN rfl ?_
  refine zm (yr qg rfl rfl rfl) rfl ?_
  obtain ⟨e2,h2,H⟩:=bnd H
  refine za (zo (y3w _ e2 h2) ⟨.inl rfl,trivial⟩) ?_
  refine qe rfl ?_
  refine zd ?_
  refine zj hN rfl ?_
  refine qd rfl ?_
  refine za (yy rfl rfl) ?_
  refine zh _ rfl (fun h2 => ?_) (fun h2 => ?_)
  ·replace H:=ift h2 H
   refine zd ?_
   refine zj hN rfl ?_
   refine qd rfl ?_
   refine qe rfl ?_
   refine qe rfl ?_
   refine zk ?_
   cases H
   exact ⟨trivial,[(8,.dat (zi false)),(9,.dat (vint e2))],⟨rfl,rfl,trivial⟩,trivial,rfl,.inl ⟨[zi false,vint e2],⟨rfl,rfl,trivial⟩,rfl⟩⟩
  ·replace H:=iff_ h2 H
   refine zn ?_
   refine zd ?_
   refine zd ?_
   refine zj hN rfl ?_
   refine za (ze (.ptr _ _) rfl) ?_
   refine qd rfl ?_
   obtain ⟨e3,h3,H⟩:=bnd H
   refine qk (rn [(0,0)]) [(0,_,_,some _)] [] (w5z m s n at_ e3 h3) ⟨rfl,trivial⟩ ⟨.inl (.inl rfl),.inl (.inl rfl),trivial⟩ ⟨⟨⟨rfl,rfl⟩,trivial⟩,trivial⟩ rfl ?_
   refine qe rfl ?_
   refine zd ?_
   refine zj hN rfl ?_
   refine qd rfl ?_
   refine za (yy rfl rfl) ?_
   refine zh _ rfl (fun h3 => ?_) (fun h3 => ?_)
   ·replace H:=ift h3 H
    refine zd ?_
    refine zj hN rfl ?_
    refine qd rfl ?_
    refine qe rfl ?_
    refine qe rfl ?_
    refine zk ?_
    cases H
    exact ⟨trivial,[(8,.dat (zi false)),(9,.dat (vint e3))],⟨rfl,rfl,trivial⟩,trivial,rfl,.inl ⟨[zi false,vint e3],⟨rfl,rfl,trivial⟩,rfl⟩⟩
   ·replace H:=iff_ h3 H
    refine zn ?_
    refine zd ?_
    refine zj hN rfl ?_
    refine zm (yr qa rfl rfl rfl) rfl ?_
    refine zm (yr qg rfl rfl rfl) rfl ?_
    obtain ⟨st,h4,H⟩:=bnd H
    refine za (zo (w76 _ _ st h4) ⟨.inl rfl,.inl rfl,trivial⟩) ?_
    refine qd rfl ?_
    refine za (zz rfl rfl) ?_
    refine za (zz rfl rfl) ?_
    refine qe rfl ?_
    refine qe rfl ?_
    refine zd ?_
    refine zd ?_
    refine zj hN rfl ?_
    refine qd rfl ?_
    refine za (yy rfl rfl) ?_
    refine zh _ rfl (fun h4 => ?_) (fun h4 => ?_)
    ·replace H:=ift h4 H
     refine zd ?_
     refine zj hN rfl ?_
     refine qd rfl ?_
     refine qe rfl ?_
     refine qe rfl ?_
     refine zk ?_
     cases H
     exact ⟨trivial,[(8,.dat (zi false)),(9,.dat (vint _))],⟨rfl,rfl,trivial⟩,trivial,rfl,.inl ⟨[zi false,vint _],⟨rfl,rfl,trivial⟩,rfl⟩⟩
    ·replace H:=iff_ h4 H
     refine zn ?_
     refine zd ?_
     refine zj hN rfl ?_
     refine zm (yr qg rfl rfl rfl) rfl ?_
     obtain ⟨t,h5,H⟩:=bnd H
     refine za (zo (w74 _ t h5) ⟨.inl rfl,trivial⟩) ?_
     refine qd rfl ?_
     refine za (zz rfl rfl) ?_
     refine za (zz rfl rfl) ?_
     refine qe rfl ?_
     refine qe rfl ?_
     refine zd ?_
     refine zd ?_
     refine zj hN rfl ?_
     refine qd rfl ?_
     refine za (yy rfl rfl) ?_
     refine zh _ rfl (fun h5 => ?_) (fun h5 => ?_)
     ·replace H:=ift h5 H
      refine zd ?_
      refine zj hN rfl ?_
      refine qd rfl ?_
      refine qe rfl ?_
      refine qe rfl ?_
      refine zk ?_
      cases H
      exact ⟨trivial,[(8,.dat (zi false)),(9,.dat (vint _))],⟨rfl,rfl,trivial⟩,trivial,rfl,.inl ⟨[zi false,vint _],⟨rfl,rfl,trivial⟩,rfl⟩⟩
     ·replace H:=iff_ h5 H
      refine zn ?_
      refine zd ?_
      refine zj hN rfl ?_
      refine zm (yr qa rfl rfl rfl) rfl ?_
      obtain ⟨nm,h6,H⟩:=bnd H
      refine za (zo (x6f _ nm h6) ⟨.inl rfl,trivial⟩) ?_
      refine qd rfl ?_
      refine za (zz rfl rfl) ?_
      refine za (zz rfl rfl) ?_
      refine zl (qt 3 jm rfl) rfl ?_
      refine zl (yx qa rfl rfl rfl rfl) rfl ?_
      refine qe rfl ?_
      refine zd ?_
      refine zd ?_
      refine zj hN rfl ?_
      refine qd rfl ?_
      refine za (yy rfl rfl) ?_
      refine zh _ rfl (fun h6 => ?_) (fun h6 => ?_)
      ·replace H:=ift h6 H
       refine zd ?_
       refine zj hN rfl ?_
       refine qd rfl ?_
       refine qe rfl ?_
       refine qe rfl ?_
       refine zk ?_
       cases H
       exact ⟨trivial,[(8,.dat (zi false)),(9,.dat (vint _))],⟨rfl,rfl,trivial⟩,trivial,rfl,.inl ⟨[zi false,vint _],⟨rfl,rfl,trivial⟩,rfl⟩⟩
      ·replace H:=iff_ h6 H
       refine zn ?_
       refine zd ?_
       refine x0n st.1 (fun hst => ?_) (fun hst => ?_)
       ·replace H:=ift hst H
        unfold y8j at H
        obtain ⟨r',hr,H⟩:=bnd H
        obtain ⟨a',ha,H⟩:=bnd H
        obtain ⟨u,hu,H⟩:=bnd H
        obtain ⟨hu0,H⟩:=gif H
        subst hu0
        obtain ⟨z,hz,H⟩:=bnd H
        obtain ⟨hzb,H⟩:=gif H
        refine zj hN rfl ?_
        refine za (ze (.ptr _ _) rfl) ?_
        refine zm (yr qa rfl rfl rfl) rfl ?_
        refine zm (yr qa rfl rfl rfl) rfl ?_
        refine zm (yr qg rfl rfl rfl) rfl ?_
        refine qd rfl ?_
        refine qd rfl ?_
        refine qd rfl ?_
        refine qk (rn [(0,0),(4,9)]) [(0,_,_,some _)] [(4,_)] (w5x m s n at_ r nm.1 a t.1 st.1 hst r' a' hr ha) ⟨rfl,rfl,trivial⟩ ⟨.inl (.inl rfl),.inl (.inl rfl),.inl (.inl rfl),.inl (.inl rfl),.inl (.inl rfl),.inl (.inl rfl),.inl (.inl rfl),trivial⟩ ⟨⟨⟨rfl,rfl⟩,trivial⟩,trivial⟩ rfl ?_
        refine za (ze (.comp _ _) rfl) ?_
        refine za (z4g rfl rfl) ?_
        refine za (z4g rfl rfl) ?_
        refine za (qs (.ptr _ _) rfl) ?_
        refine qe rfl ?_
        refine zd ?_
        refine zd ?_
        refine zj hN rfl ?_
        refine qd rfl ?_
        refine za (yy rfl rfl) ?_
        refine zh false rfl (fun h=>(by cases h)) (fun h => ?_)
        refine zn ?_
        refine zd ?_
        refine zj hN rfl ?_
        refine za (ze (.ptr _ _) rfl) ?_
        refine qd rfl ?_
        refine za (qn rfl) ?_
        refine za (zq z7s rfl) ?_
        refine zl (jn tyS3 rfl rfl rfl rfl) rfl ?_
        refine zd ?_
        refine zd ?_
        refine zj hN rfl ?_
        refine za (zq ul rfl) ?_
        refine zm (zt tyS9 rfl rfl) rfl ?_
        refine za (zo (y9b _ false hu) ⟨.inl rfl,trivial⟩) ?_
        refine qd rfl ?_
        refine zc rfl rfl rfl ?_
        refine zc rfl rfl rfl ?_
        refine zc rfl rfl rfl ?_
        refine zc rfl rfl rfl ?_
        refine za (zv rfl rfl rfl) ?_
        refine zh false rfl (fun h=>(by cases h)) (fun h => ?_)
        refine zn ?_
        refine zd ?_
        refine zj hN rfl ?_
        refine za (ze (.ptr _ _) rfl) ?_
        refine qk (rn [(0,0),(1,9)]) [(0,_,_,some _),(1,_,_,some _)] [] (w5w m s at_ (mkK r' a' at_ t.1 nm.1) z hz hzb hm hs.2) ⟨rfl,rfl,trivial⟩ ⟨.inl (.inl rfl),trivial⟩ ⟨⟨⟨rfl,rfl⟩,trivial⟩,⟨⟨rfl,rfl⟩,trivial⟩,trivial⟩ rfl ?_
        refine zd ?_
        refine x81 9 rfl fun qb => ?_
        refine Wh 0 3 9 qb (.dat (vlst [[vval (PB qb)]])) rfl rfl rfl (fun g w M v hb h=>y18 (u:=uL) hb h) ?_
        refine z7c 17 9 qb (.dat (vval (PB qb))) rfl (fun g w M v hb h=>x3p hb h) ?_
        refine zj hN rfl ?_
        refine qd rfl ?_
        refine za (w1v Yc rfl) ?_
        refine qd rfl ?_
        refine zf rfl rfl rfl (ze (.ptr _ _) rfl) ?_
        refine zf rfl rfl rfl (qn rfl) ?_
        refine zf rfl rfl rfl (zq ux rfl) ?_
        refine vc rfl rfl rfl (zt uw rfl rfl) rfl ?_
        refine zf rfl rfl rfl (ze (.dat _) rfl) ?_
        refine zf rfl rfl rfl (zo (w57 qb) ⟨.inl rfl,.inl rfl,trivial⟩) ?_
        refine za (ya rfl rfl rfl) ?_
        refine qe rfl ?_
        refine qe rfl ?_
        refine Wh 0 3 9 qb (.dr 9 uL) rfl rfl rfl (fun g w M v hb h=>z8i (u:=uL) hb h) ?_
        refine x8y 9 rfl ?_
        refine zk ?_
        cases H
        exact ⟨trivial,[(8,.dat (zi true)),(9,.dat (vint 0))],⟨rfl,rfl,trivial⟩,⟨rfl,rfl,trivial⟩,rfl,.inl ⟨[zi true,vint 0],⟨rfl,rfl,trivial⟩,rfl⟩⟩
       ·replace H:=iff_ hst H
        unfold y8k at H
        refine zj hN rfl ?_
        refine za (ze (.ptr _ _) rfl) ?_
        refine zm (yr qa rfl rfl rfl) rfl ?_
        refine zm (yr qa rfl rfl rfl) rfl ?_
        refine zm (yr qg rfl rfl rfl) rfl ?_
        refine qd rfl ?_
        refine qd rfl ?_
        refine qd rfl ?_
        refine qk (rn [(0,0)]) [(0,_,_,some _)] [] (w5y m s n at_ r nm.1 a t.1 st.1 hst) ⟨rfl,trivial⟩ ⟨.inl (.inl rfl),.inl (.inl rfl),.inl (.inl rfl),.inl (.inl rfl),.inl (.inl rfl),.inl (.inl rfl),.inl (.inl rfl),trivial⟩ ⟨⟨⟨rfl,rfl⟩,trivial⟩,trivial⟩ rfl ?_
        refine qd rfl ?_
        refine za (zz rfl rfl) ?_
        refine za (zz rfl rfl) ?_
        refine qe rfl ?_
        refine qe rfl ?_
        refine zd ?_
        refine zd ?_
        refine zj hN rfl ?_
        refine qd rfl ?_
        refine za (yy rfl rfl) ?_
        refine zh false rfl (fun h=>(by cases h)) (fun h => ?_)
        refine zn ?_
        refine zd ?_
        refine zj hN rfl ?_
        refine za (ze (.ptr _ _) rfl) ?_
        refine qd rfl ?_
        refine za (qn rfl) ?_
        refine za (zq z7s rfl) ?_
        refine zl (jn tyS3 rfl rfl rfl rfl) rfl ?_
        refine zd ?_
        refine zd ?_
        obtain ⟨u,hu,H⟩:=bnd H
        refine x0n u (fun hub => ?_) (fun hub => ?_)
        ·replace H:=ift hub H
         subst hub
         obtain ⟨o,ho,H⟩:=bnd H
         refine zj hN rfl ?_
         refine za (zq ul rfl) ?_
         refine zm (zt tyS9 rfl rfl) rfl ?_
         refine za (zo (y9b _ true hu) ⟨.inl rfl,trivial⟩) ?_
         refine qd rfl ?_
         refine zf rfl rfl rfl (zq xr rfl) ?_
         refine vc rfl rfl rfl (zt tyS3 rfl rfl) rfl ?_
         refine zf rfl rfl rfl (zo (z0w _ _ _ o ho) ⟨.inl rfl,.inl rfl,.inl rfl,trivial⟩) ?_
         refine zf rfl rfl rfl (yt rfl) ?_
         refine za (ya rfl rfl rfl) ?_
         refine zh _ rfl (fun h7 => ?_) (fun h7 => ?_)
         ·skip
          refine y00 3 (qq nm.1) rfl rfl ?_
          refine zj hN rfl ?_
          refine za (ze (.ptr _ _) rfl) ?_
          refine za (z8a (us:=[_]) ⟨rfl,trivial⟩) ?_
          refine qk (rn [(0,0)]) [(0,_,_,some _)] [] (x5p m s at_ _) ⟨rfl,trivial⟩ ⟨.inl (.inl rfl),.inl (.inl rfl),trivial⟩ ⟨⟨⟨rfl,rfl⟩,trivial⟩,trivial⟩ rfl ?_
          refine zd ?_
          refine zj hN rfl ?_
          refine za (ze (.ptr _ _) rfl) ?_
          refine qk (rn [(0,0)]) [(0,_,_,some _)] [] (y8w m s at_ hm hs.1) ⟨rfl,trivial⟩ ⟨.inl (.inl rfl),trivial⟩ ⟨⟨⟨rfl,rfl⟩,trivial⟩,trivial⟩ rfl ?_
          refine zd ?_
          refine zj hN rfl ?_
          refine qd rfl ?_
          refine za (z4f Yc rfl) ?_
          refine qd rfl ?_
          refine zc rfl rfl rfl ?_
          refine zc rfl rfl rfl ?_
          refine zc rfl rfl rfl ?_
          refine zc rfl rfl rfl ?_
          refine zc rfl rfl rfl ?_
          refine zc rfl rfl rfl ?_
          refine za (zv rfl rfl rfl) ?_
          refine qe rfl ?_
          refine qe rfl ?_
          refine zk ?_
          cases H
          exact ⟨trivial,[(8,.dat (zi false)),(9,.dat (vint 0))],⟨rfl,rfl,trivial⟩,trivial,rfl,.inl ⟨[zi false,vint 0],⟨rfl,rfl,trivial⟩,rfl⟩⟩
         ·skip
          refine zn ?_
          refine zd ?_
          refine zj hN rfl ?_
          refine za (ze (.ptr _ _) rfl) ?_
          refine qk (rn [(0,0)]) [(0,_,_,some _)] [] (y8w m s at_ hm hs.1) ⟨rfl,trivial⟩ ⟨.inl (.inl rfl),trivial⟩ ⟨⟨⟨rfl,rfl⟩,trivial⟩,trivial⟩ rfl ?_
          refine zd ?_
          refine zj hN rfl ?_
          refine qd rfl ?_
          refine za (z4f Yc rfl) ?_
          refine qd rfl ?_
          refine zc rfl rfl rfl ?_
          refine zc rfl rfl rfl ?_
          refine zc rfl rfl rfl ?_
          refine zc rfl rfl rfl ?_
          refine zc rfl rfl rfl ?_
          refine zc rfl rfl rfl ?_
          refine za (zv rfl rfl rfl) ?_
          refine qe rfl ?_
          refine qe rfl ?_
          refine zk ?_
          cases H
          exact ⟨trivial,[(8,.dat (zi false)),(9,.dat (vint 0))],⟨rfl,rfl,trivial⟩,trivial,rfl,.inl ⟨[zi false,vint 0],⟨rfl,rfl,trivial⟩,rfl⟩⟩
        ·replace H:=iff_ hub H
         subst hub
         refine zj hN rfl ?_
         refine za (zq ul rfl) ?_
         refine zm (zt tyS9 rfl rfl) rfl ?_
         refine za (zo (y9b _ false hu) ⟨.inl rfl,trivial⟩) ?_
         refine qd rfl ?_
         refine zc rfl rfl rfl ?_
         refine zc rfl rfl rfl ?_
         refine zc rfl rfl rfl ?_
         refine zc rfl rfl rfl ?_
         refine za (zv rfl rfl rfl) ?_
         refine zh false rfl (fun h=>(by cases h)) (fun h => ?_)
         refine zn ?_
         refine zd ?_
         refine zj hN rfl ?_
         refine za (ze (.ptr _ _) rfl) ?_
         refine qk (rn [(0,0)]) [(0,_,_,some _)] [] (y8w m s at_ hm hs.1) ⟨rfl,trivial⟩ ⟨.inl (.inl rfl),trivial⟩ ⟨⟨⟨rfl,rfl⟩,trivial⟩,trivial⟩ rfl ?_
         refine zd ?_
         refine zj hN rfl ?_
         refine qd rfl ?_
         refine za (z4f Yc rfl) ?_
         refine qd rfl ?_
         refine zc rfl rfl rfl ?_
         refine zc rfl rfl rfl ?_
         refine zc rfl rfl rfl ?_
         refine zc rfl rfl rfl ?_
         refine zc rfl rfl rfl ?_
         refine zc rfl rfl rfl ?_
         refine za (zv rfl rfl rfl) ?_
         refine qe rfl ?_
         refine qe rfl ?_
         refine zk ?_
         cases H
         exact ⟨trivial,[(8,.dat (zi false)),(9,.dat (vint 0))],⟨rfl,rfl,trivial⟩,trivial,rfl,.inl ⟨[zi false,vint 0],⟨rfl,rfl,trivial⟩,rfl⟩⟩
end Go.Proofs.YtahcnngcpjkpgabGreatDoor
