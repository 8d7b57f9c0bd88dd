/- The cache of at most one entry: Get. -/
import Derived.Test.YtahcnngcpjkpgabGreatDoorZwh3
namespace Go.Proofs.YtahcnngcpjkpgabGreatDoor
open Go.RowKit
set_option linter.unusedVariables false
set_option maxRecDepth 100000
set_option maxHeartbeats 2000000
theorem w55 (m s n:Int) (K:wx) (q:zw) (x:Int×yb×Int) (H:z9p n K q=some x):FnG Tryz.prog 14 [.ptr 0 0,.dat (vagg (qq q))] [(0,jq (some 0) m s n (.dr 1 uL)),(1,Wg (some 0) K)] (.dat (zr [vint x.1,vagg (qf x.2.1),vint x.2.2])) [(3,.box none 31 ((qf x.2.1).map .dat))]:=by
 refine vy (by kernel_rfl) Tryz.func14 rfl rfl rfl rfl fun X A hN => ?_
 unfold z9p at H
 refine zd ?_
 refine zj hN rfl ?_
 refine zl (we 2 rfl) rfl ?_
 refine qe rfl ?_
 refine zl (qt 3 vu rfl) rfl ?_
 refine qe rfl ?_
 refine zd ?_
 refine zd ?_
 refine zj hN rfl ?_
 refine zm (yr qa rfl rfl rfl) rfl ?_
 obtain ⟨e1,h1,H⟩:=bnd H
 refine za (zo (z9u _ e1 h1) ⟨.inl rfl,trivial⟩) ?_
 refine qe rfl ?_
 refine zd ?_
 refine zj hN rfl ?_
 refine qd rfl ?_
 refine za (yy rfl rfl) ?_
 refine zh _ rfl (fun h1 => ?_) (fun h1 => ?_)
 ·replace H:=ift h1 H
  refine zd ?_
  refine zj hN rfl ?_
  refine za (jh (u':=vagg (qf noR)) (je (by exact ⟨yl,ja,yl,trivial⟩)) (qw [] vu uc rfl trivial)) ?_
  refine qd rfl ?_
  refine qe rfl ?_
  refine zl (yx qg rfl rfl rfl rfl) rfl ?_
  refine qe rfl ?_
  refine zk ?_
  cases H
  exact ⟨trivial,[(4,.dat (vint 0)),(5,.ptr 3 0),(6,.dat (vint e1))],⟨rfl,rfl,rfl,trivial⟩,⟨rfl,trivial⟩,rfl,.inl ⟨[vint 0,vagg (qf noR),vint e1],⟨rfl,⟨_,_,_,qf noR,rfl,rfl,rfl,rfl,qg⟩,rfl,trivial⟩,rfl⟩⟩
 ·replace H:=iff_ h1 H
  refine zn ?_
  refine zd ?_
  refine zj hN rfl ?_
  refine za (zq jt rfl) ?_
  refine zm (zt qu rfl rfl) rfl ?_
  obtain ⟨c,h2,H⟩:=bnd H
  refine za (zo (z9w _ c h2) ⟨.inl rfl,trivial⟩) ?_
  refine qd rfl ?_
  refine za (zz rfl rfl) ?_
  refine za (zz rfl rfl) ?_
  refine zl (qt 4 Yx rfl) rfl ?_
  refine zl (yx ub rfl rfl rfl rfl) rfl ?_
  refine qe rfl ?_
  refine zd ?_
  refine zd ?_
  refine zj hN rfl ?_
  refine qd rfl ?_
  refine za (yy rfl rfl) ?_
  refine zh _ rfl (fun h2 => ?_) (fun h2 => ?_)
  ·replace H:=ift h2 H
   refine zd ?_
   refine zj hN rfl ?_
   refine za (jh (u':=vagg (qf noR)) (je (by exact ⟨yl,ja,yl,trivial⟩)) (qw [] vu uc rfl trivial)) ?_
   refine qd rfl ?_
   refine qe rfl ?_
   refine zl (yx qg rfl rfl rfl rfl) rfl ?_
   refine qe rfl ?_
   refine zk ?_
   cases H
   exact ⟨trivial,[(4,.dat (vint 0)),(5,.ptr 3 0),(6,.dat (vint _))],⟨rfl,rfl,rfl,trivial⟩,⟨rfl,trivial⟩,rfl,.inl ⟨[vint 0,vagg (qf noR),vint _],⟨rfl,⟨_,_,_,qf noR,rfl,rfl,rfl,rfl,qg⟩,rfl,trivial⟩,rfl⟩⟩
  ·replace H:=iff_ h2 H
   refine zn ?_
   refine zd ?_
   refine zd ?_
   refine ww mixed hN rfl rfl ?_
   refine za (zq z1h rfl) ?_
   refine zm (zt tyS3 rfl rfl) rfl ?_
   refine za (ze (.ptr _ _) rfl) ?_
   refine za (qn rfl) ?_
   refine za (zq z7s rfl) ?_
   refine zm (zt tyS3 rfl rfl) rfl ?_
   refine za (ye rfl rfl) ?_
   refine ⟨rfl,?_⟩
   refine zh _ rfl (fun h3 => ?_) (fun h3 => ?_)
   ·replace H:=ift h3 H
    refine zd ?_
    refine zj hN rfl ?_
    refine za (jh (u':=vagg (qf noR)) (je (by exact ⟨yl,ja,yl,trivial⟩)) (qw [] vu uc rfl trivial)) ?_
    refine qe rfl ?_
    refine zl (yx qg rfl rfl rfl rfl) rfl ?_
    refine qe rfl ?_
    refine zk ?_
    cases H
    exact ⟨trivial,[(4,.dat (vint 0)),(5,.ptr 3 0),(6,.dat (vint 7))],⟨rfl,rfl,rfl,trivial⟩,⟨rfl,trivial⟩,rfl,.inl ⟨[vint 0,vagg (qf noR),vint 7],⟨rfl,⟨_,_,_,qf noR,rfl,rfl,rfl,rfl,qg⟩,rfl,trivial⟩,rfl⟩⟩
   ·replace H:=iff_ h3 H
    refine zn ?_
    refine zd ?_
    refine zj hN rfl ?_
    refine zm (yr qa rfl rfl rfl) rfl ?_
    obtain ⟨nm,h4,H⟩:=bnd H
    refine za (zo (x6f _ nm h4) ⟨.inl rfl,trivial⟩) ?_
    refine qd rfl ?_
    refine za (zz rfl rfl) ?_
    refine za (zz rfl rfl) ?_
    refine zl (qt 5 jm rfl) rfl ?_
    refine zl (yx qa rfl rfl rfl rfl) rfl ?_
    refine qe rfl ?_
    refine zd ?_
    refine zd ?_
    refine zj hN rfl ?_
    refine qd rfl ?_
    refine za (yy rfl rfl) ?_
    refine zh _ rfl (fun h4 => ?_) (fun h4 => ?_)
    ·replace H:=ift h4 H
     refine zd ?_
     refine zj hN rfl ?_
     refine za (jh (u':=vagg (qf noR)) (je (by exact ⟨yl,ja,yl,trivial⟩)) (qw [] vu uc rfl trivial)) ?_
     refine qd rfl ?_
     refine qe rfl ?_
     refine zl (yx qg rfl rfl rfl rfl) rfl ?_
     refine qe rfl ?_
     refine zk ?_
     cases H
     exact ⟨trivial,[(4,.dat (vint 0)),(5,.ptr 3 0),(6,.dat (vint _))],⟨rfl,rfl,rfl,trivial⟩,⟨rfl,trivial⟩,rfl,.inl ⟨[vint 0,vagg (qf noR),vint _],⟨rfl,⟨_,_,_,qf noR,rfl,rfl,rfl,rfl,qg⟩,rfl,trivial⟩,rfl⟩⟩
    ·replace H:=iff_ h4 H
     refine zn ?_
     refine zd ?_
     refine zj hN rfl ?_
     refine za (ze (.ptr _ _) rfl) ?_
     refine za (zq z1h rfl) ?_
     refine zm (zt tyS3 rfl rfl) rfl ?_
     refine za (qn rfl) ?_
     refine za (zq z7s rfl) ?_
     refine zl (jn tyS3 rfl rfl rfl rfl) rfl ?_
     refine zd ?_
     obtain ⟨su,hsu,H⟩:=bnd H
     refine x0n su (fun hb => ?_) (fun hb => ?_)
     ·replace H:=ift hb H
      subst hb
      unfold y8m at H
      obtain ⟨t,h5,H⟩:=bnd H
      obtain ⟨g,h6,H⟩:=bnd H
      obtain ⟨d,h7,H⟩:=bnd H
      refine zj hN rfl ?_
      refine za (ze (.ptr _ _) rfl) ?_
      refine zm (yr qa rfl rfl rfl) rfl ?_
      refine qk (rn [(0,0),(1,1)]) [(0,_,_,some _),(1,_,_,some _)] [] (w50 m s q.At K nm.1 hsu) ⟨rfl,rfl,trivial⟩ ⟨.inl (.inl rfl),.inl (.inl rfl),trivial⟩ ⟨⟨⟨rfl,rfl⟩,trivial⟩,⟨⟨rfl,rfl⟩,trivial⟩,trivial⟩ rfl ?_
      refine za (qs (.ptr _ _) rfl) ?_
      refine zd ?_
      refine zj hN rfl ?_
      refine qe rfl ?_
      refine zd ?_
      refine zd ?_
      refine zj hN rfl ?_
      refine za (ze (.ptr _ _) rfl) ?_
      refine za (w1w Yc rfl) ?_
      refine zh true rfl (fun h => ?_) (fun h=>(by cases h))
      refine zd ?_
      refine zj hN rfl ?_
      refine za (ze (.ptr _ _) rfl) ?_
      refine za (qn rfl) ?_
      refine za (zq Wn rfl) ?_
      refine za (zq z1j rfl) ?_
      refine za (zq kq rfl) ?_
      refine zm (zt qu rfl rfl) rfl ?_
      refine za (zo (z9w _ t h5) ⟨.inl rfl,trivial⟩) ?_
      refine qd rfl ?_
      refine za (zz rfl rfl) ?_
      refine za (zz rfl rfl) ?_
      refine zl (qt 6 Yx rfl) rfl ?_
      refine zl (yx ub rfl rfl rfl rfl) rfl ?_
      refine qe rfl ?_
      refine ww mixed hN rfl rfl ?_
      refine zm (yr ub rfl rfl rfl) rfl ?_
      refine zm (yr ub rfl rfl rfl) rfl ?_
      refine za (ze (.ptr _ _) rfl) ?_
      refine za (qn rfl) ?_
      refine za (zq Wn rfl) ?_
      refine zm (yr y5s rfl rfl rfl) rfl ?_
      refine za (zq z1h rfl) ?_
      refine zm (zt tyS3 rfl rfl) rfl ?_
      refine za (zo (x6q _ _ g h6) ⟨.inl rfl,.inl rfl,trivial⟩) ?_
      refine za (zo (w8d _ _ _ d h7) ⟨.inl rfl,.inl rfl,.inl rfl,trivial⟩) ?_
      refine qe rfl ?_
      refine ⟨rfl,?_⟩
      refine zd ?_
      refine yc ?_
      refine zd ?_
      refine zj hN rfl ?_
      refine qd rfl ?_
      refine za (yq rfl rfl) ?_
      refine qd rfl ?_
      refine yp rfl rfl (fun hc=>ze (.dat _) rfl) ?_
      refine yp rfl rfl (fun hc=>yq (cnd (c:=(!(decide (d=1)))) hc) rfl) ?_
      refine za (wy rfl rfl (fun hb=>(cnd (c:=(!(decide (d=1)))) (notI hb)))) ?_
      refine qe rfl ?_
      refine zh _ rfl (fun h5 => ?_) (fun h5 => ?_)
      ·replace H:=ift h5 H
       refine zd ?_
       refine zj hN rfl ?_
       refine za (ze (.ptr _ _) rfl) ?_
       refine za (zq z1h rfl) ?_
       refine zm (zt tyS3 rfl rfl) rfl ?_
       refine za (qn rfl) ?_
       refine za (zq Wn rfl) ?_
       refine za (zq w0v rfl) ?_
       refine zl (jn tyS3 rfl rfl rfl rfl) rfl ?_
       refine zd ?_
       refine zj hN rfl ?_
       refine qd rfl ?_
       refine za (ze (.ptr _ _) rfl) ?_
       refine zm (yr qa rfl rfl rfl) rfl ?_
       refine za (zq z1h rfl) ?_
       refine zm (zt tyS3 rfl rfl) rfl ?_
       obtain ⟨an,h8,H⟩:=bnd H
       refine zl (yu (w78 (y5h K q.At) q q.At an h8) rfl ⟨.inl rfl,.inl rfl,trivial⟩ rfl) rfl ?_
       refine qe rfl ?_
       refine zl (yx qg rfl rfl rfl rfl) rfl ?_
       refine qe rfl ?_
       refine zk ?_
       cases H
       exact ⟨trivial,[(4,.dat (vint d)),(5,.ptr 3 0),(6,.dat (vint 0))],⟨rfl,rfl,rfl,trivial⟩,⟨rfl,trivial⟩,rfl,.inl ⟨[vint d,vagg (qf an.1),vint 0],⟨rfl,⟨_,_,_,qf an.1,rfl,rfl,rfl,rfl,qg⟩,rfl,trivial⟩,rfl⟩⟩
      ·replace H:=iff_ h5 H
       refine zd ?_
       refine zj hN rfl ?_
       refine za (zq y5y rfl) ?_
       refine zm (zt tyS4 rfl rfl) rfl ?_
       refine qe rfl ?_
       refine zh _ rfl (fun h6 => ?_) (fun h6 => ?_)
       ·replace H:=ift h6 H
        refine zd ?_
        refine zj hN rfl ?_
        refine za (jh (u':=vagg (qf noR)) (je (by exact ⟨yl,ja,yl,trivial⟩)) (qw [] vu uc rfl trivial)) ?_
        refine qe rfl ?_
        refine zl (yx qg rfl rfl rfl rfl) rfl ?_
        refine qe rfl ?_
        refine zk ?_
        cases H
        exact ⟨trivial,[(4,.dat (vint 4)),(5,.ptr 3 0),(6,.dat (vint 0))],⟨rfl,rfl,rfl,trivial⟩,⟨rfl,trivial⟩,rfl,.inl ⟨[vint 4,vagg (qf noR),vint 0],⟨rfl,⟨_,_,_,qf noR,rfl,rfl,rfl,rfl,qg⟩,rfl,trivial⟩,rfl⟩⟩
       ·replace H:=iff_ h6 H
        refine zn ?_
        refine zd ?_
        refine zj hN rfl ?_
        refine qd rfl ?_
        refine za (jh (u':=vagg (qf noR)) (je (by exact ⟨yl,ja,yl,trivial⟩)) (qw [] vu uc rfl trivial)) ?_
        refine qe rfl ?_
        refine zl (yx qg rfl rfl rfl rfl) rfl ?_
        refine qe rfl ?_
        refine zk ?_
        cases H
        exact ⟨trivial,[(4,.dat (vint d)),(5,.ptr 3 0),(6,.dat (vint 0))],⟨rfl,rfl,rfl,trivial⟩,⟨rfl,trivial⟩,rfl,.inl ⟨[vint d,vagg (qf noR),vint 0],⟨rfl,⟨_,_,_,qf noR,rfl,rfl,rfl,rfl,qg⟩,rfl,trivial⟩,rfl⟩⟩
     ·replace H:=iff_ hb H
      subst hb
      unfold y8l at H
      refine zj hN rfl ?_
      refine za (ze (.ptr _ _) rfl) ?_
      refine zm (yr qa rfl rfl rfl) rfl ?_
      refine qk (rn [(0,0),(1,1)]) [(0,_,_,some _),(1,_,_,some _)] [] (w51 m s q.At K nm.1 hsu) ⟨rfl,rfl,trivial⟩ ⟨.inl (.inl rfl),.inl (.inl rfl),trivial⟩ ⟨⟨⟨rfl,rfl⟩,trivial⟩,⟨⟨rfl,rfl⟩,trivial⟩,trivial⟩ rfl ?_
      refine qe rfl ?_
      refine zd ?_
      refine zj hN rfl ?_
      refine qe rfl ?_
      refine zd ?_
      refine zd ?_
      refine zj hN rfl ?_
      refine qd rfl ?_
      refine za (z4f Yc rfl) ?_
      refine zh false rfl (fun h=>(by cases h)) (fun h => ?_)
      refine zn ?_
      refine zd ?_
      refine yc ?_
      refine zd ?_
      refine zj hN rfl ?_
      refine qd rfl ?_
      refine za (yq rfl rfl) ?_
      refine qd rfl ?_
      refine yp rfl rfl (fun hc=>ze (.dat _) rfl) ?_
      refine yp rfl rfl (fun hc=>yq (cnd (c:=(!(decide ((0:Int)=1)))) hc) rfl) ?_
      refine za (wy rfl rfl (fun hb=>(cnd (c:=(!(decide ((0:Int)=1)))) (notI hb)))) ?_
      refine qe rfl ?_
      refine zh false rfl (fun h=>(by cases h)) (fun h => ?_)
      refine zd ?_
      refine zj hN rfl ?_
      refine za (zq y5y rfl) ?_
      refine zm (zt tyS4 rfl rfl) rfl ?_
      refine qe rfl ?_
      refine zh _ rfl (fun h7 => ?_) (fun h7 => ?_)
      ·replace H:=ift h7 H
       refine zd ?_
       refine zj hN rfl ?_
       refine za (jh (u':=vagg (qf noR)) (je (by exact ⟨yl,ja,yl,trivial⟩)) (qw [] vu uc rfl trivial)) ?_
       refine qe rfl ?_
       refine zl (yx qg rfl rfl rfl rfl) rfl ?_
       refine qe rfl ?_
       refine zk ?_
       cases H
       exact ⟨trivial,[(4,.dat (vint 4)),(5,.ptr 3 0),(6,.dat (vint 0))],⟨rfl,rfl,rfl,trivial⟩,⟨rfl,trivial⟩,rfl,.inl ⟨[vint 4,vagg (qf noR),vint 0],⟨rfl,⟨_,_,_,qf noR,rfl,rfl,rfl,rfl,qg⟩,rfl,trivial⟩,rfl⟩⟩
      ·replace H:=iff_ h7 H
       refine zn ?_
       refine zd ?_
       refine zj hN rfl ?_
       refine qd rfl ?_
       refine za (jh (u':=vagg (qf noR)) (je (by exact ⟨yl,ja,yl,trivial⟩)) (qw [] vu uc rfl trivial)) ?_
       refine qe rfl ?_
       refine zl (yx qg rfl rfl rfl rfl) rfl ?_
       refine qe rfl ?_
       refine zk ?_
       cases H
       exact ⟨trivial,[(4,.dat (vint 0)),(5,.ptr 3 0),(6,.dat (vint 0))],⟨rfl,rfl,rfl,trivial⟩,⟨rfl,trivial⟩,rfl,.inl ⟨[vint 0,vagg (qf noR),vint 0],⟨rfl,⟨_,_,_,qf noR,rfl,rfl,rfl,rfl,qg⟩,rfl,trivial⟩,rfl⟩⟩
end Go.Proofs.YtahcnngcpjkpgabGreatDoor
