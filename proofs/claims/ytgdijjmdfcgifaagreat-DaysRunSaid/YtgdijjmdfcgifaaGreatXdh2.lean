/- A day of calls: what is looked up. -/
import Derived.Test.YtgdijjmdfcgifaaGreatXdh1
namespace Go.Proofs.YtgdijjmdfcgifaaGreat
open Go.RowKit Go.ChangeMaps Go.MapKept
set_option linter.unusedVariables false
set_option maxRecDepth 100000
set_option maxHeartbeats 2000000
theorem x97 (u v w x_ y:V) (s1:y47) (i2:Int) (v3:Int) (r:(zz×Bool)) (H:z3p s1 i2 v3=some r):Fn Tryz.prog 96 [zx [[vlst (List.map ya s1.s_.Instances),vint s1.s_.Tries,vint s1.s_.Timeout,vint s1.s_.Wait,vint s1.s_.MostWait,vint s1.s_.Budget.Window,vint s1.s_.Budget.Least,vint s1.s_.Budget.Part,vint s1.s_.Outliers.Fails,vint s1.s_.Outliers.Base,vint s1.s_.Outliers.Most,vint s1.s_.Outliers.Share,vlst (List.map qq s1.phases_),u,v,w,x_,y]] 0 0,vint i2,vint v3] (zu [vagg (qq r.1),zn r.2]):=by
 refine ⟨by kernel_rfl,yr (us:=[vagg (qq r.1),zn r.2]) Tryz.func96 Z Z Z Z fun X hN => ?_⟩
 unfold z3p at H
 refine zb hN Z (zi (qh 1 Qg Z) Z (qe Z (zd (zb hN Z (qd Z (za (ub Z) (za (wd x29 Z) (za (yt y5r Z Z Z) (za (yx Wt Z) (qd Z (zw (gE H fun h6 H=>wg (fun (k4:Nat) (s:Unit)=>[(0,.dat (zx [[vlst (List.map ya s1.s_.Instances),vint s1.s_.Tries,vint s1.s_.Timeout,vint s1.s_.Wait,vint s1.s_.MostWait,vint s1.s_.Budget.Window,vint s1.s_.Budget.Least,vint s1.s_.Budget.Part,vint s1.s_.Outliers.Fails,vint s1.s_.Outliers.Base,vint s1.s_.Outliers.Most,vint s1.s_.Outliers.Share,vlst (List.map qq s1.phases_),u,v,w,x_,y]] 0 0)),(1,.dat (vint i2)),(2,.dat (vint v3)),(6,.ptr 1 0),(13,.dat (vlst (List.map qq s1.phases_))),(14,.dat (vint (s1.phases_.length:Int))),(15,.dat (vint (k4:Int)))]) (fun (k4:Nat) (s:Unit)=>[(1,.box none 70 [.dat (vstr []),.dat (vint 0),.dat (vint 0),.dat (vint 0),.dat (vint 0)])]) () H ⟨Z,Z,Z,Z,Z,Z,Z,U⟩ ⟨Z,U⟩ (fun _ _=>Z) ?_ ?_))))))))))))
 ·rintro ⟨⟩ H
  replace H:z72=some r:=H
  unfold z72 at H
  refine zb hN Z (za (zq Z Z) (zd (zk _ Z (fun h=>(lt_t h).elim) (fun h => ?_))))
  refine qa (zb hN Z (za (yb (u':=vagg (qq (zz.mk [] (ka.mk 0 0) 0 0))) (vq [] Qg y5x Z U) Z) (zi (qf kv Z Z Z Z) Z (qe Z (zo ?_)))))
  cases H
  exact ⟨U,.inl ⟨_,_,_,qq (zz.mk [] (ka.mk 0 0) 0 0),Z,Z,Z,Z,kv⟩,.inl Z,U⟩
 ·rintro k4 x7 ⟨⟩ q5 h8 h9 H hq5
  replace H:z01 s1 i2 v3 k4 x7=some q5:=H
  unfold z01 at H
  refine zb hN Z (za (zq Z Z) (zd (zk _ Z (fun h => ?_) (fun h=>(lt_f h8 h).elim))))
  refine zp (zd (zw (zb hN Z (za (wb Qp (fun _=>Z) Z Z h9) (za (wv kv Z (yz h9) Z) (zi (qh 2 Qg Z) Z (zi (qf kv Z Z Z Z) Z (zd (yo mixed hN Z Z (za (ze xg Z) (zh (zj tyS9 Z Z) Z (qd Z (za (ub Z) (za (wd xf Z) (za (wd kx Z) (za (yt kd Z Z Z) (qd Z (bE H fun x10 h11 H=>za (js jq (fun _=>Z) Z Z h11) (za (wd jg Z) (za (yt tyS9 Z (yz (yp h11).2) Z) (za (xu Z Z) (qd Z ?_))))))))))))))))))))))
  refine qt Z Z (fun hc=>ze kj Z) (qt Z Z (fun hc=>ze Qm (cnd (c:=(decide (x7.Instance=x10.Key))) hc)) (z0e Z Z (fun hc=>zj tyS3 (cnd (c:=(decide (x7.Instance=x10.Key))) hc) Z) Z z0y (qt Z Z (fun hc=>zg (.dat _) Z) (qt Z Z (fun hc=>xi (cnd (c:=(decide (x7.Instance=x10.Key))) hc) (cnd (c:=(decide (x7.Instance=x10.Key))) hc)) (za (uv Z (fun hb=>(cnd (c:=(decide (x7.Instance=x10.Key))) hb)) Z) (qd Z (qt Z Z (fun hc=>zg (.dat _) Z) (qt Z Z (fun hc=>ze kj Z) (qt Z Z (fun hc=>ze Ww (cnd (c:=((decide (x7.Instance=x10.Key)) && (decide (x7.Time.From≤v3)))) hc)) (z0e Z Z (fun hc=>zj tyS3 (cnd (c:=((decide (x7.Instance=x10.Key)) && (decide (x7.Time.From≤v3)))) hc) Z) Z z0y (qt Z Z (fun hc=>zq (cnd (c:=((decide (x7.Instance=x10.Key)) && (decide (x7.Time.From≤v3)))) hc) (cnd (c:=((decide (x7.Instance=x10.Key)) && (decide (x7.Time.From≤v3)))) hc)) (za (uv Z (fun hb=>(cnd (c:=((decide (x7.Instance=x10.Key)) && (decide (x7.Time.From≤v3)))) hb)) Z) ⟨Z,?_⟩))))))))))))
  refine zk _ Z (fun h12 => ?_) (fun h12 => ?_)
  ·refine tE h12 H fun H=>zb hN Z (zh (wm kv Z Z Z) Z (zi (qf kv Z Z Z Z) Z (qe Z (zo ?_))))
   replace H:=retl H hq5
   cases H
   exact ⟨U,.inl ⟨_,_,_,qq x7,Z,Z,Z,Z,kv⟩,.inl Z,U⟩
  ·exact fE h12 H fun H=>zp (zm hN Z (za (yy Z Z (by omega)) (qd Z ⟨_,qx H,⟨Z,Z,Z,Z,Z,Z,Z,U⟩,⟨Z,U⟩⟩)))
theorem y87 (q4 q5:Nat) (a:Int×Bool) (m:Int):FnI Tryz.prog 65 [vint m,vval (PB q5),vval (PB q4)] [(1,.box (some q4) 3 [.dat (vint a.1)]),(2,.box (some q5) 4 [.dat (zn a.2)])] (fun _:Unit=>zu []) (fun _=>[(1,.box (some q4) 3 [.dat (vint (seeN m a).1)]),(2,.box (some q5) 4 [.dat (zn (seeN m a).2)])]):=by
 refine y09 (by kernel_rfl) Tryz.func65 Z Z Z Z fun X hN => ?_
 refine wj 1 2 q5 (.ptr 2 0) Z (fun g w M v hb h=>vx hb h) (wj 2 1 q4 (.ptr 1 0) Z (fun g w M v hb h=>vx hb h) ?_)
 obtain ⟨at_,fd⟩:=a
 refine zd (ko fd (fun hbb => ?_) (fun hbb => ?_))
 ·subst hbb
  refine zm hN Z (zh (zj tyS4 Z Z) Z (za (qs Z) (qd Z (zf Z Z Z (zg (.dat _) Z) (yd Z Z Z (zj tyS3 Z Z) Z (zf Z Z Z (zq Z Z) (za (yn Z Z Z) (zk _ Z (fun h1 => ?_) (fun h1 => ?_)))))))))
  ·skip
   have e:seeN m (at_,true)=(m,true):=if_pos (by simpa using h1)
   rw [e]
   exact zm hN Z (qd Z (zi (vf tyS3 Z Z Z Z) Z (zi (vf tyS4 Z Z Z Z) Z ⟨U,(),[],U,⟨Z,Z,U⟩,Z,.inl ⟨[],U,Z⟩⟩)))
  ·skip
   have e:seeN m (at_,true)=(at_,true):=if_neg (by simpa using h1)
   rw [e]
   exact zp ⟨U,(),[],U,⟨Z,Z,U⟩,Z,.inl ⟨[],U,Z⟩⟩
 ·subst hbb
  refine zm hN Z (zh (zj tyS4 Z Z) Z (za (qs Z) (qd Z (zc Z Z Z (zc Z Z Z (zc Z Z Z (za (yh Z Z Z) (zk true Z (fun h => ?_) (fun h=>(by cases h))))))))))
  exact zm hN Z (qd Z (zi (vf tyS3 Z Z Z Z) Z (zi (vf tyS4 Z Z Z Z) Z ⟨U,(),[],U,⟨Z,Z,U⟩,Z,.inl ⟨[],U,Z⟩⟩)))
theorem y9i (s:qb) (ph:List zz) (u v w:V) (ts:List zt) (cs:List yj) (r:Int×Bool) (H:z3u ts cs=some r):Fn Tryz.prog 31 [zx [plU s ph u v w (vlst (List.map C_pc cs)) (vlst (List.map yv ts))] 0 0] (zu [vint r.1,zn r.2]):=by
 refine ⟨by kernel_rfl,yr (us:=[vint r.1,zn r.2]) Tryz.func31 Z Z Z Z fun X hN => ?_⟩
 unfold z3u at H
 obtain ⟨⟨hn1,hn2⟩,H⟩:=gif H
 refine bE H fun a1 h1 H=>zb hN rfl (qe rfl (qe rfl (zb hN rfl (zi (qh 1 tyZ3 rfl) rfl (zi (qh 2 tyZ4 rfl) rfl (zi (vf tyS3 rfl rfl rfl rfl) rfl (zi (vf tyS4 rfl rfl rfl rfl) rfl (zd (z7u 1 rfl fun q4=>(z7u 2 rfl fun q5=>(wj 4 1 q4 (.dat (vval (PB q4))) rfl (fun g w M v hb h=>jc hb h) (wj 5 2 q5 (.dat (vval (PB q5))) rfl (fun g w M v hb h=>jc hb h) (zm hN rfl (za (Yn (us:=[_,_]) ⟨rfl,rfl,trivial⟩) (qe rfl (zd (zb hN rfl (qd rfl (za (ub rfl) (za (wd z2z rfl) (za (yt Ye rfl (by first | assumption | rfl) rfl) ?_)))))))))))))))))))))
 refine za (yx z08 Z) (qd Z (zw (wg (fun (k:Nat) (a:Int×Bool)=>[(0,.dat (zx [plU s ph u v w (vlst (List.map C_pc cs)) (vlst (List.map yv ts))] 0 0)),(4,.dat (vval (PB q4))),(5,.dat (vval (PB q5))),(6,.dat (vfn 65 [vval (PB q5),vval (PB q4)])),(15,.dat (vlst (List.map yv ts))),(16,.dat (vint (ts.length:Int))),(17,.dat (vint (k:Int)))]) (fun (k:Nat) (a:Int×Bool)=>[(1,.box (some q4) 3 [.dat (vint a.1)]),(2,.box (some q5) 4 [.dat (zn a.2)])]) (0,false) h1 ⟨Z,Z,Z,Z,Z,Z,Z,U⟩ ⟨Z,Z,U⟩ (fun _ _=>Z) ?_ ?_)))
 ·rintro a ha
  obtain rfl:a1=a:=(Option.some.inj ha).symm
  refine zb hN Z (za (zq Z Z) (zd (zk _ Z (fun h=>(lt_t h).elim) (fun h => ?_))))
  refine qa (zd (zb hN rfl (qd rfl (za (ub rfl) (za (wd z1d rfl) (za (yt z1a rfl (by first | assumption | rfl) rfl) ?_))))))
  refine za (yx y1z Z) (qd Z (zw (wg (fun (k:Nat) (a:Int×Bool)=>[(0,.dat (zx [plU s ph u v w (vlst (List.map C_pc cs)) (vlst (List.map yv ts))] 0 0)),(4,.dat (vval (PB q4))),(5,.dat (vval (PB q5))),(6,.dat (vfn 65 [vval (PB q5),vval (PB q4)])),(29,.dat (vlst (List.map C_pc cs))),(30,.dat (vint (cs.length:Int))),(31,.dat (vint (k:Int)))]) (fun (k:Nat) (a:Int×Bool)=>[(1,.box (some q4) 3 [.dat (vint a.1)]),(2,.box (some q5) 4 [.dat (zn a.2)])]) a1 H ⟨Z,Z,Z,Z,Z,Z,Z,U⟩ ⟨Z,Z,U⟩ (fun _ _=>Z) ?_ ?_)))
  ·rintro a ha
   obtain rfl:r=a:=(Option.some.inj ha).symm
   refine zb hN Z (za (zq Z Z) (zd (zk _ Z (fun h=>(lt_t h).elim) (fun h => ?_))))
   refine qa (zd (wj 4 1 q4 (.ptr 1 0) Z (fun g w M v hb h=>vx hb h) (wj 5 2 q5 (.ptr 2 0) Z (fun g w M v hb h=>vx hb h) (yo mixed hN Z Z (zh (zj tyS3 Z Z) Z (zh (zj tyS4 Z Z) Z (qe Z (qe Z ⟨Z,?_⟩))))))))
   exact zo ⟨U,⟨.inl Z,.inl Z,U⟩⟩
  ·rintro k x a q hk0 hx hs hq
   replace hs:z9p k x a=some q:=hs
   unfold z9p at hs
   refine zb hN Z (za (zq Z Z) (zd (zk _ Z (fun h => ?_) (fun h=>(lt_f hk0 h).elim))))
   refine zp (zd (zw (zb hN rfl (za (wb z5m (fun _=>rfl) rfl rfl hx) (za (yt z2w rfl (yz hx) rfl) (qe rfl (zb hN rfl (qd rfl (za (ub rfl) (za (wd z5d rfl) (za (yt tyS3 rfl (by first | assumption | rfl) rfl) ?_)))))))))))
   refine za (qz Z Z) (zk _ Z (fun h1 => ?_) (fun h1 => ?_))
   ·skip
    replace hs:=ift h1 hs
    cases hs
    refine jd (ι:=Unit) (os1:=[_,_,_,_,_]) (os2:=[]) hN rfl rfl rfl (qd rfl (qd rfl (za (ub rfl) (za (wd y13 rfl) (za (yt tyS3 rfl (by first | assumption | rfl) rfl) ?_)))))
    refine ⟨_,_,uz [(0,.dat (zx [plU s ph u v w (vlst (List.map C_pc cs)) (vlst (List.map yv ts))] 0 0)),(4,.dat (vval (PB q4))),(5,.dat (vval (PB q5))),(6,.dat (vfn 65 [vval (PB q5),vval (PB q4)])),(29,.dat (vlst (List.map C_pc cs))),(30,.dat (vint (cs.length:Int))),(31,.dat (vint (k:Int))),(40,.dat (vfn 65 [vval (PB q5),vval (PB q4)])),(44,.dat (vint x.start_))] [] (y87 q4 q5 a (x.start_)) (z4u (cs:=[vval (PB q5),vval (PB q4)]) (us:=[_]) (by kernel_rfl) Z Z) ⟨Z,Z,Z,Z,Z,Z,Z,Z,Z,U⟩ ⟨Z,Z,U⟩ Z (fun _=>Z),fun _ => ?_⟩
    exact zm hN Z (za (yy Z Z (by omega)) (qd Z ⟨_,Z,⟨Z,Z,Z,Z,Z,Z,Z,U⟩,⟨Z,Z,U⟩⟩))
   ·skip
    replace hs:=iff_ h1 hs
    cases hs
    exact zp (zm hN Z (za (yy Z Z (by omega)) (qd Z ⟨_,Z,⟨Z,Z,Z,Z,Z,Z,Z,U⟩,⟨Z,Z,U⟩⟩)))
 ·rintro k x a q hk0 hx hs hq
  cases (show some (Sum.inl (seeN x.end_ a))=some q from hs)
  refine zb hN Z (za (zq Z Z) (zd (zk _ Z (fun h => ?_) (fun h=>(lt_f hk0 h).elim))))
  refine zp (zd (zw (zb hN Z (za (wb ur (fun _=>Z) Z Z hx) (za (wv ja Z (yz hx) Z) (zi (qh 3 z07 Z) Z (zi (qf ja Z Z Z Z) Z (jd (ι:=Unit) (os1:=[_,_,_]) (os2:=[]) hN Z Z Z (qd Z (za (ze ky Z) (zh (zj tyS3 Z Z) Z ⟨_,_,uz [(0,.dat (zx [plU s ph u v w (vlst (List.map C_pc cs)) (vlst (List.map yv ts))] 0 0)),(4,.dat (vval (PB q4))),(5,.dat (vval (PB q5))),(6,.dat (vfn 65 [vval (PB q5),vval (PB q4)])),(15,.dat (vlst (List.map yv ts))),(16,.dat (vint (ts.length:Int))),(17,.dat (vint (k:Int))),(21,.dat (vfn 65 [vval (PB q5),vval (PB q4)])),(23,.dat (vint x.end_))] [] (y87 q4 q5 a (x.end_)) (z4u (cs:=[vval (PB q5),vval (PB q4)]) (us:=[_]) (by kernel_rfl) Z Z) ⟨Z,Z,Z,Z,Z,Z,Z,Z,Z,U⟩ ⟨Z,Z,U⟩ Z (fun _=>Z),fun _ => ?_⟩)))))))))))
  exact zm hN Z (za (yy Z Z (by omega)) (qd Z ⟨_,Z,⟨Z,Z,Z,Z,Z,Z,Z,U⟩,⟨Z,Z,U⟩⟩))
end Go.Proofs.YtgdijjmdfcgifaaGreat
