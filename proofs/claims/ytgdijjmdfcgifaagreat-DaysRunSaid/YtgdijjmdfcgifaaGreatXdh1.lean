/- A day of calls: walks of functions that turn one call. -/
import Derived.Test.YtgdijjmdfcgifaaGreatXdk
namespace Go.Proofs.YtgdijjmdfcgifaaGreat
open Go.RowKit Go.ChangeMaps Go.MapKept
set_option linter.unusedVariables false
set_option maxRecDepth 100000
set_option maxHeartbeats 2000000
theorem z7g (b m:Nat) (h:Value) (c:yj) (v2 st:Int):FnI Tryz.prog 93 [vval (PB b),vint v2,vint st] [(50,oC b m h c)] (fun _:Unit=>zu []) (fun _=>[(50,oC b m h (finC c v2 st))]):=by
 refine y09 (by kernel_rfl) Tryz.func93 Z Z Z Z fun X hN => ?_
 exact wj 0 50 b (.ptr 50 0) Z (fun g w M v hb h=>vx hb h) (zm hN Z (za (zg (.ptr _ _) Z) (za (zg (.ptr _ _) Z) (za (zg (.ptr _ _) Z) (qd Z (qd Z (za (zy Z) (za (ze z5d Z) (zi (vf tyS3 Z Z Z Z) Z (za (zy Z) (za (ze Wv Z) (za (ze z1c Z) (zi (vf tyS3 Z Z Z Z) Z (za (zy Z) (za (ze Wv Z) (za (ze Ql Z) (zi (vf tyS3 Z Z Z Z) Z ⟨U,(),[],U,⟨Z,U⟩,Z,.inl ⟨[],U,Z⟩⟩)))))))))))))))))
theorem y3y (s:qb) (ph:List zz) (u v x y:V) (sd:qj) (v3 i:Int) (r:Bool) (H:z11 sd v3 i=some r):Fn Tryz.prog 109 [vint i,zx [[zx [plU s ph u v (zx [xa sd] 0 0) x y] 0 0]] 0 0,zx [[vint v3]] 0 0] (zu [zn r]):=by
 refine ⟨by kernel_rfl,yr (us:=[zn r]) Tryz.func109 Z Z Z Z fun X hN => ?_⟩
 unfold z11 at H
 refine bE H fun b hb H=>zb hN rfl (qe rfl (zd (yo mixed hN rfl rfl (za (yt z5b rfl (by first | assumption | rfl) rfl) ?_))))
 refine za (ub rfl) (za (wd y56 rfl) (za (yt y5q rfl (by first | assumption | rfl) rfl) ?_))
 refine qd rfl (za (yt tyS3 rfl (by first | assumption | rfl) rfl) ?_)
 refine za (ye (x8i sd i v3 b hb) ⟨.inl Z,.inl Z,.inl Z,U⟩) (za (qs Z) (qe Z ⟨Z,?_⟩))
 refine zo ?_
 cases H
 exact ⟨U,⟨.inl Z,U⟩⟩
theorem x8e (s:qb) (ph:List zz) (u v x y u0 u1 u3 u4 u5 u6:V) (sd:qj) (t:List (Int×Bool)) (v3 i:Int) (r:Bool) (H:z36 sd v3 t i=some r):Fn Tryz.prog 111 (vint i::[zx [[vfn 109 [zx [[zx [plU s ph u v (zx [xa sd] 0 0) x y] 0 0]] 0 0,zx [[vint v3]] 0 0]]] 0 0,zx [[zx [[u0,u1,vmpG Qd t,u3,u4,u5,u6]] 0 0]] 0 0]) (zu [zn r]):=by
 refine ⟨by kernel_rfl,yr (us:=[zn r]) Tryz.func111 Z Z Z Z fun X hN => ?_⟩
 unfold z36 at H
 refine bE H fun b hb H=>zb hN Z (qe Z (zd (ko b (fun hbb => ?_) (fun hbb => ?_))))
 ·refine tE hbb H fun H=>?_
  subst hbb
  refine gE H fun hk H=>?_
  cases H
  refine zm hN rfl (za (yt z8b rfl (by first | assumption | rfl) rfl) ?_)
  refine qd rfl (za (uw (us:=[vint i]) (cs:=[zx [[zx [plU s ph u v (zx [xa sd] 0 0) x y] 0 0]] 0 0,zx [[vint v3]] 0 0]) (y3y s ph u v x y sd v3 i _ hb) rfl ⟨.inl rfl,trivial⟩) (qd rfl (zf rfl rfl rfl (yt z2w rfl (by first | assumption | rfl) rfl) ?_)))
  refine zf rfl rfl rfl (ub rfl) (zf rfl rfl rfl (wd y54 rfl) (zf rfl rfl rfl (yt y5p rfl (by first | assumption | rfl) rfl) ?_))
  exact zf Z Z Z (zg (.dat _) Z) (zf Z Z Z (x4l i y12 Z Z hk) (zf Z Z Z (qs Z) (za (yh Z Z Z) (qe Z (zo ⟨U,⟨.inl Z,U⟩⟩)))))
 ·refine fE hbb H fun H=>?_
  subst hbb
  cases H
  refine zm hN rfl (za (yt z8b rfl (by first | assumption | rfl) rfl) ?_)
  exact qd Z (za (uw (us:=[vint i]) (cs:=[zx [[zx [plU s ph u v (zx [xa sd] 0 0) x y] 0 0]] 0 0,zx [[vint v3]] 0 0]) (y3y s ph u v x y sd v3 i _ hb) Z ⟨.inl Z,U⟩) (qd Z (zc Z Z Z (zc Z Z Z (zc Z Z Z (zc Z Z Z (zc Z Z Z (zc Z Z Z (zc Z Z Z (za (yn Z Z Z) (qe Z (zo ⟨U,⟨.inl Z,U⟩⟩))))))))))))
theorem x8f (s:qb) (ph:List zz) (u v x u0 u1 u3 u4 u5 u6:V) (ts:List zt) (sd:qj) (t:List (Int×Bool)) (v3 r:Int) (H:z7c s.Instances ts sd t v3=some r):Fn Tryz.prog 95 [zx [plU s ph u v (zx [xa sd] 0 0) x (vlst (List.map yv ts))] 0 0,zx [[u0,u1,vmpG Qd t,u3,u4,u5,u6]] 0 0,vint v3] (zu [vint r]):=by
 refine ⟨by kernel_rfl,yr (us:=[vint r]) Tryz.func95 Z Z Z Z fun X hN => ?_⟩
 unfold z7c at H
 refine gE H fun hn H=>bE H fun l hl H=>bE H fun i hi H=>?_
 unfold z98 at hl
 obtain ⟨hn2,hl⟩:=gif hl
 refine zb hN rfl (zi (z0c 1 rfl rfl) rfl (zi (z0c 2 rfl rfl) rfl (zi (z0c 3 rfl rfl) rfl (qe rfl (zb hN rfl (zh (zj z5b rfl rfl) rfl (za (ub rfl) (za (wd xf rfl) (za (wd kx rfl) (za (yt kd rfl (by first | assumption | rfl) rfl) ?_))))))))))
 refine za (yx vw rfl) (zi (y2c (C:=yl) 4 0 vg tyZ3 rfl rfl rfl rfl hn rfl) rfl (za (wo (.row _ _) rfl) (zd (zb hN rfl (zh (zj z5b rfl rfl) rfl (za (ub rfl) (za (wd z2z rfl) (za (yt Ye rfl (by first | assumption | rfl) rfl) ?_))))))))
 refine za (yx z08 rfl) (qd rfl (zw (wg (fun (k:Nat) (s0:List Int)=>[(3,.ptr 1 0),(4,.ptr 2 0),(5,.ptr 3 0),(7,.row 4 s0.length),(22,.dat (vlst (List.map yv ts))),(23,.dat (vint (ts.length:Int))),(24,.dat (vint (k:Int)))]) (fun (k:Nat) (s0:List Int)=>[(1,.box none 71 [.dat (zx [plU s ph u v (zx [xa sd] 0 0) x (vlst (List.map yv ts))] 0 0)]),(2,.box none 80 [.dat (zx [[u0,u1,vmpG Qd t,u3,u4,u5,u6]] 0 0)]),(3,.box none 3 [.dat (vint v3)]),(4,.row 3 1 (List.map yl s0))]) (List.replicate s.Instances.length 0) hl ⟨rfl,rfl,rfl,(by rw [List.length_replicate]; rfl),rfl,rfl,rfl,trivial⟩ ⟨rfl,rfl,rfl,rfl,trivial⟩ (fun _ _=>rfl) ?_ ?_)))
 ·rintro s0 hs
  obtain rfl:l=s0:=(Option.some.inj hs).symm
  refine zb hN Z (za (zq Z Z) (zd (zk _ Z (fun h=>(lt_t h).elim) (fun h => ?_))))
  refine qa (zd (xm 1 [zx [plU s ph u v (zx [xa sd] 0 0) x (vlst (List.map yv ts))] 0 0] rfl rfl (xm 3 [vint v3] rfl rfl (zm hN rfl (za (Yn (us:=[_,_]) ⟨rfl,rfl,trivial⟩) (zi (qh 6 x2b rfl) rfl (zi (vf z8b rfl rfl rfl rfl) rfl (zd (xm 6 [vfn 109 [zx [[zx [plU s ph u v (zx [xa sd] 0 0) x (vlst (List.map yv ts))] 0 0]] 0 0,zx [[vint v3]] 0 0]] rfl rfl (xm 2 [zx [[u0,u1,vmpG Qd t,u3,u4,u5,u6]] 0 0] rfl rfl (z4w 7 4 rfl rfl (by simp) (zm hN rfl (za (yt z5b rfl (by first | assumption | rfl) rfl) ?_)))))))))))))
  refine za (ub rfl) (za (wd xf rfl) (za (wd kx rfl) (za (yt kd rfl (by first | assumption | rfl) rfl) ?_)))
  refine qd Z (za (Yn (us:=[_,_]) ⟨Z,Z,U⟩) (za (ye (y9g s.Instances l (z36 sd v3 t) 111 [zx [[vfn 109 [zx [[zx [plU s ph u v (zx [xa sd] 0 0) x (vlst (List.map yv ts))] 0 0]] 0 0,zx [[vint v3]] 0 0]]] 0 0,zx [[zx [[u0,u1,vmpG Qd t,u3,u4,u5,u6]] 0 0]] 0 0] (fun a q hq=>x8e s ph u v x (vlst (List.map yv ts)) u0 u1 u3 u4 u5 u6 sd t v3 a q hq) i hi) ⟨.inl Z,.inl Z,.inl Z,U⟩) (qe Z (zd (zb hN Z (qd Z (za (zq Z Z) (zk _ Z (fun h1 => ?_) (fun h1 => ?_)))))))))
  ·refine tE h1 H fun H=>yo mixed hN rfl rfl (za (yt z5b rfl (by first | assumption | rfl) rfl) ?_)
   refine za (ub rfl) (za (wd xf rfl) (za (wd kx rfl) (za (yt kd rfl (by first | assumption | rfl) rfl) ?_)))
   refine qd rfl (za (yt z8b rfl (by first | assumption | rfl) rfl) ?_)
   refine za (ye (y9g s.Instances l (z11 sd v3) 109 [zx [[zx [plU s ph u v (zx [xa sd] 0 0) x (vlst (List.map yv ts))] 0 0]] 0 0,zx [[vint v3]] 0 0] (fun a q hq=>y3y s ph u v x (vlst (List.map yv ts)) sd v3 a q hq) r H) ⟨.inl Z,.inl Z,.inl Z,U⟩) (qe Z ⟨Z,?_⟩)
   exact zb hN Z (qd Z (qe Z (zo ⟨U,⟨.inl Z,U⟩⟩)))
  ·refine fE h1 H fun H=>zp (zb hN Z (qd Z (qe Z (zo ?_))))
   cases H
   exact ⟨U,⟨.inl Z,U⟩⟩
 ·rintro k x s0 q hk0 hx hs hq
  replace hs:y1d k x s0=some q:=hs
  unfold y1d at hs
  obtain ⟨a,ha,hs⟩:=bnd hs
  cases hs
  refine zb hN Z (za (zq Z Z) (zd (zk _ Z (fun h => ?_) (fun h=>(lt_f hk0 h).elim))))
  exact zp (zd (zw (zb hN rfl (za (wb ur (fun _=>rfl) rfl rfl hx) (za (wv ja rfl (yz hx) rfl) (zi (qh 5 z07 rfl) rfl (zi (qf ja rfl rfl rfl rfl) rfl (zm hN rfl (za (zg (.row _ _) rfl) (za (ze y19 rfl) (zh (zj tyS3 rfl rfl) rfl (zh (Yl jr rfl rfl rfl ha) rfl (zh (xr tyS3 rfl rfl (yp ha).2 rfl) rfl (za (ym _ rfl rfl (.inl ⟨rfl,rfl⟩)) (zh (Yl jr rfl rfl rfl ha) rfl (zi (kz (wr (a+1)) tyS3 rfl rfl rfl rfl (yp ha).2 rfl rfl) rfl (zm hN rfl (za (yy rfl rfl (by omega)) (qd rfl ⟨_,rfl,⟨rfl,rfl,rfl,(by rw [List.length_set]; rfl),rfl,rfl,rfl,trivial⟩,⟨rfl,rfl,rfl,rfl,trivial⟩⟩)))))))))))))))))))
end Go.Proofs.YtgdijjmdfcgifaaGreat
