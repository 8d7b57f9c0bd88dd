/- The cache of at most one entry: what comes, and how it is put. -/
import Derived.Test.YtahcnngcpjkpgabGreatDoorZwh1
import Derived.Test.YtahcnngcpjkpgabGreatDoorZwk
namespace Go.Proofs.YtahcnngcpjkpgabGreatDoor
open Go.RowKit
set_option linter.unusedVariables false
set_option maxRecDepth 100000
set_option maxHeartbeats 2000000
abbrev w4l (m s n:Int):Option wx→List (Nat×AObj)
 | none=>[]
 | some K=>[(0,jq (some 0) m s n (.dr 9 uL)),(9,Wg none K)]
theorem w5z (m s n at_ e:Int) (H:m_mf n at_=some e):FnG Tryz.prog 41 [.ptr 0 0,.dat (vint at_)] [(0,jq (some 0) m s n (.dat vnil))] (.dat (vint e)) [(0,jq (some 0) m s n (.dat vnil))]:=by
 refine vy (by kernel_rfl) Tryz.func41 rfl rfl rfl rfl fun X A hN => ?_
 unfold m_mf at H
 refine zd ?_
 refine zj hN rfl ?_
 refine qe rfl ?_
 refine zd ?_
 refine zd ?_
 refine zj hN rfl ?_
 refine qd rfl ?_
 obtain ⟨r3,h4,H⟩:=bnd H
 refine za (zo (x6h _ r3 h4) ⟨.inl rfl,trivial⟩) ?_
 refine za (yt rfl) ?_
 refine zh _ rfl (fun h1 => ?_) (fun h1 => ?_)
 ·replace H:=ift h1 H
  refine zd ?_
  refine zj hN rfl ?_
  refine qe rfl ?_
  refine zk ?_
  cases H
  exact ⟨trivial,[(4,.dat (vint 1))],⟨rfl,trivial⟩,⟨rfl,trivial⟩,rfl,.inl ⟨[vint 1],⟨rfl,trivial⟩,rfl⟩⟩
 ·replace H:=iff_ h1 H
  refine zn ?_
  refine zd ?_
  refine zd ?_
  refine zj hN rfl ?_
  refine qd rfl ?_
  refine za (ze (.ptr _ _) rfl) ?_
  refine za (qn rfl) ?_
  refine za (zq z7s rfl) ?_
  refine zm (zt tyS3 rfl rfl) rfl ?_
  refine za (ye rfl rfl) ?_
  refine zh _ rfl (fun h2 => ?_) (fun h2 => ?_)
  ·replace H:=ift h2 H
   refine zd ?_
   refine zj hN rfl ?_
   refine qe rfl ?_
   refine zk ?_
   cases H
   exact ⟨trivial,[(4,.dat (vint 7))],⟨rfl,trivial⟩,⟨rfl,trivial⟩,rfl,.inl ⟨[vint 7],⟨rfl,trivial⟩,rfl⟩⟩
  ·replace H:=iff_ h2 H
   refine zn ?_
   refine zd ?_
   refine zj hN rfl ?_
   refine qe rfl ?_
   refine zk ?_
   cases H
   exact ⟨trivial,[(4,.dat (vint 0))],⟨rfl,trivial⟩,⟨rfl,trivial⟩,rfl,.inl ⟨[vint 0],⟨rfl,trivial⟩,rfl⟩⟩
theorem w5y (m s n at_:Int) (r nm:zw) (a:yb) (tags:List Bs) (b:Bool) (hb:b=false):FnG Tryz.prog 45 [.ptr 0 0,.dat (vagg (qq r)),.dat (vagg (qq nm)),.dat (vagg (qf a)),.dat (vlst (List.map zx tags)),.dat (vint at_),.dat (zi b)] [(0,jq (some 0) m s n (.dat vnil))] (.dat (zr [vN,vint 0])) [(0,jq (some 0) m s n (.dat vnil))]:=by
 subst hb
 refine vy (by kernel_rfl) Tryz.func45 rfl rfl rfl rfl fun X A hN => ?_
 refine zd ?_
 refine zj hN rfl ?_
 refine zl (we 1 rfl) rfl ?_
 refine zl (we 2 rfl) rfl ?_
 refine zl (we 3 rfl) rfl ?_
 refine qe rfl ?_
 refine qe rfl ?_
 refine zd ?_
 refine zj hN rfl ?_
 refine za (ze (.ptr _ _) rfl) ?_
 refine zm (yr qa rfl rfl rfl) rfl ?_
 refine qk (rn [(0,0)]) [(0,_,_,some _)] [] (x5o m s n nm) ⟨rfl,trivial⟩ ⟨.inl (.inl rfl),.inl (.inl rfl),trivial⟩ ⟨⟨⟨rfl,rfl⟩,trivial⟩,trivial⟩ rfl ?_
 refine qe rfl ?_
 refine zd ?_
 refine zd ?_
 refine zj hN rfl ?_
 refine za (zq xr rfl) ?_
 refine zm (zt tyS3 rfl rfl) rfl ?_
 refine za (yq rfl rfl) ?_
 refine qd rfl ?_
 refine ql rfl rfl (fun hc=>ze (.dat _) rfl) ?_
 refine ql rfl rfl (fun hc=>z4f Yc (cnd (c:=(decide (a.Status=304))) hc)) ?_
 refine za (yd (u':=zi false) (wz rfl (fun hb=>(cnd (c:=(decide (a.Status=304))) hb)) rfl) (ju (Bool.and_false _))) ?_
 refine zh false rfl (fun h=>(by cases h)) (fun h => ?_)
 refine zn ?_
 refine zd ?_
 refine zd ?_
 refine zj hN rfl ?_
 refine qd rfl ?_
 refine za (yt rfl) ?_
 refine zh true rfl (fun h => ?_) (fun h=>(by cases h))
 refine zd ?_
 refine zj hN rfl ?_
 refine qe rfl ?_
 refine qe rfl ?_
 refine zk ?_
 exact ⟨trivial,[(14,.dat vN),(15,.dat (vint 0))],⟨rfl,rfl,trivial⟩,⟨rfl,trivial⟩,rfl,.inl ⟨[vN,vint 0],⟨rfl,rfl,trivial⟩,rfl⟩⟩
theorem w5x (m s n at_:Int) (r nm:zw) (a:yb) (tags:List Bs) (b:Bool) (hb:b=true) (r':zw) (a':yb) (Hr:z54 r=some r') (Ha:z2w a=some a'):FnG Tryz.prog 45 [.ptr 0 0,.dat (vagg (qq r)),.dat (vagg (qq nm)),.dat (vagg (qf a)),.dat (vlst (List.map zx tags)),.dat (vint at_),.dat (zi b)] [(0,jq (some 0) m s n (.dat vnil))] (.comp true [.ptr 4 0,.dat (vint 0)]) [(0,jq (some 0) m s n (.dr 4 uL)),(4,Wg none (mkK r' a' at_ tags nm))]:=by
 subst hb
 refine vy (by kernel_rfl) Tryz.func45 rfl rfl rfl rfl fun X A hN => ?_
 refine zd ?_
 refine zj hN rfl ?_
 refine zl (we 1 rfl) rfl ?_
 refine zl (we 2 rfl) rfl ?_
 refine zl (we 3 rfl) rfl ?_
 refine qe rfl ?_
 refine qe rfl ?_
 refine zd ?_
 refine zj hN rfl ?_
 refine za (ze (.ptr _ _) rfl) ?_
 refine zm (yr qa rfl rfl rfl) rfl ?_
 refine qk (rn [(0,0)]) [(0,_,_,some _)] [] (x5o m s n nm) ⟨rfl,trivial⟩ ⟨.inl (.inl rfl),.inl (.inl rfl),trivial⟩ ⟨⟨⟨rfl,rfl⟩,trivial⟩,trivial⟩ rfl ?_
 refine qe rfl ?_
 refine zd ?_
 refine zd ?_
 refine zj hN rfl ?_
 refine za (zq xr rfl) ?_
 refine zm (zt tyS3 rfl rfl) rfl ?_
 refine za (yq rfl rfl) ?_
 refine qd rfl ?_
 refine ql rfl rfl (fun hc=>ze (.dat _) rfl) ?_
 refine ql rfl rfl (fun hc=>z4f Yc (cnd (c:=(decide (a.Status=304))) hc)) ?_
 refine za (yd (u':=zi false) (wz rfl (fun hb=>(cnd (c:=(decide (a.Status=304))) hb)) rfl) (ju (Bool.and_false _))) ?_
 refine zh false rfl (fun h=>(by cases h)) (fun h => ?_)
 refine zn ?_
 refine zd ?_
 refine zd ?_
 refine zj hN rfl ?_
 refine qd rfl ?_
 refine za (yt rfl) ?_
 refine zh false rfl (fun h=>(by cases h)) (fun h => ?_)
 refine zn ?_
 refine zd ?_
 refine y00 2 (qq nm) rfl rfl ?_
 refine zj hN rfl ?_
 refine za (ze (.ptr _ _) rfl) ?_
 refine za (z8a (us:=[_]) ⟨rfl,trivial⟩) ?_
 refine qk (rn [(0,0)]) [(0,_,_,some _)] [] (x5p m s n _) ⟨rfl,trivial⟩ ⟨.inl (.inl rfl),.inl (.inl rfl),trivial⟩ ⟨⟨⟨rfl,rfl⟩,trivial⟩,trivial⟩ rfl ?_
 refine zd ?_
 refine ww mixed hN rfl rfl ?_
 refine zm (yr qa rfl rfl rfl) rfl ?_
 refine za (zo (w8e _ _ Hr) ⟨.inl rfl,trivial⟩) ?_
 refine zm (yr qg rfl rfl rfl) rfl ?_
 refine za (zo (x6p _ _ Ha) ⟨.inl rfl,trivial⟩) ?_
 refine qd rfl ?_
 refine qd rfl ?_
 refine qd rfl ?_
 refine za (qw [(0,_),(8,_),(11,[_]),(12,[_]),(13,[_])] w0f w0o rfl ⟨rfl,.inr rfl,rfl,rfl,.inr rfl,rfl,rfl,.inl ⟨_,rfl,rfl,rfl⟩,rfl,rfl,.inl ⟨_,rfl,rfl,rfl⟩,rfl,rfl,.inl ⟨_,rfl,rfl,rfl⟩,rfl,trivial⟩) ?_
 refine za (xa qa rfl (by first | assumption | rfl) rfl) ?_
 refine za (qw [(0,_),(14,_)] w0e w0n rfl ⟨rfl,.inr rfl,rfl,rfl,.inr rfl,rfl,trivial⟩) ?_
 refine zl (we 4 rfl) rfl ?_
 refine za (qs (.ptr _ _) rfl) ?_
 refine ⟨rfl,?_⟩
 refine zd ?_
 refine x81 4 rfl fun qb => ?_
 refine z7c 19 4 qb (.dat (vval (PB qb))) rfl (fun g w M v hb h=>x3p hb h) ?_
 refine Yv 0 3 6 102 1 rfl rfl rfl rfl ?_
 refine zj hN rfl ?_
 refine za (ze (.ptr _ _) rfl) ?_
 refine za (ze (.ptr _ _) rfl) ?_
 refine za (qn rfl) ?_
 refine za (zq ux rfl) ?_
 refine zm (zt uw rfl rfl) rfl ?_
 refine qd rfl ?_
 refine za (qj [[_]] x1l ⟨rfl,.inl ⟨_,rfl,rfl,rfl⟩,rfl,trivial⟩ rfl rfl) ?_
 refine zl (y6i (es:=[]) x1l rfl rfl (by simp) (by intro el h; simp only [List.mem_singleton] at h; subst h; rfl) (by simp) (by simp)) rfl ?_
 refine za (qn rfl) ?_
 refine za (zq ux rfl) ?_
 refine Zn (Zm uw rfl rfl rfl rfl) rfl rfl ?_
 refine zd ?_
 refine z1a 0 3 6 rfl rfl rfl rfl ?_
 refine Wh 0 3 4 qb (.dr 4 uL) rfl rfl rfl (fun g w M v hb h=>z8i (u:=uL) hb h) ?_
 refine z7c 19 4 qb (.ptr 4 0) rfl (fun g w M v hb h=>y19 hb h) ?_
 refine x8y 4 rfl ?_
 refine zj hN rfl ?_
 refine za (ze (.ptr _ _) rfl) ?_
 refine za (qs (.ptr _ _) rfl) ?_
 refine qe rfl ?_
 refine zk ?_
 exact ⟨trivial,[(14,.ptr 4 0),(15,.dat (vint 0))],⟨rfl,rfl,trivial⟩,⟨rfl,rfl,trivial⟩,rfl,.inr (.inr ⟨.ptr 4 0,.dat (vint 0),[],⟨rfl,rfl,trivial⟩,rfl⟩)⟩
end Go.Proofs.YtahcnngcpjkpgabGreatDoor
