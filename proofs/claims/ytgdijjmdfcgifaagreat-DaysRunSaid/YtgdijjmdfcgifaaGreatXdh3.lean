/- A day of calls: a try ends; a try begins. -/
import Derived.Test.YtgdijjmdfcgifaaGreatXdh2
namespace Go.Proofs.YtgdijjmdfcgifaaGreat
open Go.RowKit Go.ChangeMaps Go.MapKept
set_option linter.unusedVariables false
set_option maxRecDepth 100000
set_option maxHeartbeats 2000000
theorem y9b (D:Dc) (v:Dv) (b m:Nat) (h:Value) (c:yj) (t:zt) (hk:at? D.bs t.call_=some b) (again2:List Int) (sd3:qj) (c2:yj) (H:Wd D.s D.ats v.again v.sd c t=some (again2,sd3,c2)):FnI Tryz.prog 71 [vval (PB D.b1),vagg (yv t)] (litO D v b m h c) (fun _:Value×Value×Value=>zu []) (fun y=>litO D ⟨again2,sd3,v.tries,y.2.1,y.1,v.ht⟩ b m y.2.2 c2):=by
 refine Wm (by kernel_rfl) Tryz.func71 Z Z Z Z fun X hN => ?_
 unfold Wd at H
 refine bE H fun x hx H=>gE H fun hlen H=>bE H fun sd2 hsd H=>bE H fun bf hb H=>wj 0 1 D.b1 (.ptr 1 0) Z (fun g w M v hb h=>vx hb h) (zb hN Z (zi (vt 61 Z) Z (zd (yo mixed hN Z Z (za (zg (.ptr _ _) Z) (za (zy Z) (za (ze z1d Z) (zh (zj z1a Z Z) Z (za (ze x3d Z) (zh (zj tyS3 Z Z) Z (za (js (C:=fun b=>[vval (PB b)]) z5m (fun _=>Z) Z Z hk) (za (yt z2w Z (yz (yp hk).2) Z) (qe Z ⟨Z,?_⟩)))))))))))))
 refine zd (wj 4 50 b (.ptr 50 0) Z (fun g w M v hb h=>vx hb h) (z0w 50 4 52 70 (c.out_.Tries.length) yw Z Z Z Z (yo mixed hN Z Z (za (zg (.ptr _ _) Z) (za (zg (.ptr _ _) Z) (za (zy Z) (za (ze Wv Z) (za (ze kw Z) (zh (zj ku Z Z) Z (za (zg (.ptr _ _) Z) (za (zy Z) (za (ze xf Z) (za (ze kx Z) (zh (zj kd Z Z) Z (za (ze y19 Z) (zh (zj tyS3 Z Z) Z (za (js jq (fun _=>Z) Z Z hx) (za (wd jg Z) (za (yt tyS9 Z (yz (yp hx).2) Z) (za (ze y18 Z) (zh (zj tyS3 Z Z) Z (za (ze ky Z) (zh (zj tyS3 Z Z) Z ?_)))))))))))))))))))))))
 refine za (ze Yh Z) (zh (zj tyS3 Z Z) Z (za (yb (u':=vagg (jm (⟨x.Key,t.sent_,t.end_,t.status_⟩:qc))) (vq [(0,[vstr x.Key]),(1,[vint t.sent_]),(2,[vint t.end_]),(3,[vint t.status_])] y1y y5z Z ⟨Z,.inl ⟨_,Z,Z,Z⟩,Z,Z,.inl ⟨_,Z,Z,Z⟩,Z,Z,.inl ⟨_,Z,Z,Z⟩,Z,Z,.inl ⟨_,Z,Z,Z⟩,Z,U⟩) Z) (za (yb (u':=vlst (List.map jm [(⟨x.Key,t.sent_,t.end_,t.status_⟩:qc)])) (qr [jm (⟨x.Key,t.sent_,t.end_,t.status_⟩:qc)] z8d ⟨Z,.inr Z,Z,U⟩ Z Z) Z) (zi (jo z8d (fun _=>Z) Z Z Z ⟨by simp,by simp; omega⟩ Z) Z ?_))))
 refine za (zy Z) (za (ze Wv Z) (za (ze kw Z) (Zo (Zn ku Z Z yw Z) Z Z ⟨Z,?_⟩)))
 refine zd (z0w 2 4 3 72 (v.sd.list_.length) yw Z Z Z Z (Wn 1 15 2 D.b2 (.ptr 2 0) Z Z Z (fun g w M v hb h=>vx hb h) (yo mixed hN Z Z (za (zg (.ptr _ _) Z) (za (zy Z) (za (ze y56 Z) (zh (zj y5q Z Z) Z (za (ze y19 Z) (zh (zj tyS3 Z Z) Z (za (ze ky Z) (zh (zj tyS3 Z Z) Z (za (ze Yh Z) (zh (zj tyS3 Z Z) Z (Zp (rn [(0,2),(1,72),(900,73)]) [(0,_,_,some _),(1,_,_,none)] [(900,_)] (x7p v.sd t.instance_ t.end_ t.status_ sd2 hsd) ⟨Z,Z,Z,U⟩ ⟨.inl (.inl Z),.inl (.inl Z),.inl (.inl Z),.inl (.inl Z),U⟩ ⟨⟨⟨Z,Z⟩,U⟩,⟨⟨Z,Z,Z⟩,U⟩,U⟩ Z ⟨Z,?_⟩))))))))))))))
 refine zd (Wn 1 15 2 D.b2 (.dat (vval (PB D.b2))) Z Z Z (fun g w M v hb h=>jc hb h) (jj 2 4 73 74 Z Z Z yw Z fun hs2=>(zm hN Z (za (zg (.ptr _ _) Z) (za (zy Z) (za (ze Wv Z) (za (ze kw Z) (zh (zj ku Z Z) Z (zh (xt Zi Z Z) Z (qe Z (zd (zd (ko bf (fun hbb => ?_) (fun hbb => ?_))))))))))))))
 ·subst hbb
  refine ko (decide ((((c.out_.Tries++[(⟨x.Key,t.sent_,t.end_,t.status_⟩:qc)]).length:Int))=D.s.Tries)) (fun he => ?_) (fun he => ?_)
  skip
  ·refine tE he H fun H=>?_
   have e1:(again2,sd3,c2)=(v.again,sd2,finC (tryC c (⟨x.Key,t.sent_,t.end_,t.status_⟩:qc)) t.end_ t.status_):=(Option.some.inj H).symm
   cases e1
   refine jj 50 4 70 71 Z Z Z yw Z fun h2=>(yo mixed hN Z Z (za (ze Yh Z) (zh (zj tyS3 Z Z) Z (za (ye (z7i _ _ hb) ⟨.inl Z,U⟩) (za (qs Z) (qd Z (zf Z Z Z (zg (.dat _) Z) (zf Z Z Z (zg (.ptr _ _) Z) (zf Z Z Z (zy Z) (zf Z Z Z (ze xf Z) (zf Z Z Z (ze Qn Z) (yd Z Z Z (zj tyS3 Z Z) Z (zf Z Z Z (yb (u':=zn true) (qz Z Z) (vh he)) (za (yn Z Z Z) (qd Z (zc Z Z Z (zc Z Z Z (zc Z Z Z (zc Z Z Z (zc Z Z Z (zc Z Z Z (zc Z Z Z (zc Z Z Z ?_)))))))))))))))))))))))
   refine zc Z Z Z (zc Z Z Z (zc Z Z Z (zc Z Z Z (zc Z Z Z (zc Z Z Z (zc Z Z Z (zc Z Z Z (zc Z Z Z (za (yh Z Z Z) ⟨Z,?_⟩)))))))))
   refine zk true Z (fun h => ?_) (fun h=>(by cases h))
   refine zd (wj 4 50 b (.dat (vval (PB b))) Z (fun g w M v hb h=>jc hb h) (jd (ι:=Unit) (os1:=[_,_,_,_,_]) (os2:=[]) hN Z Z Z (qd Z (za (ze ky Z) (zh (zj tyS3 Z Z) Z (za (ze Yh Z) (zh (zj tyS3 Z Z) Z ⟨_,_,uz [(91,.dat (vval (PB b))),(93,.dat (vint t.end_)),(95,.dat (vint t.status_))] [(1,oP D ⟨v.again,sd3,v.tries,v.ha,hs2,v.ht⟩),(2,oS D ⟨v.again,sd3,v.tries,v.ha,hs2,v.ht⟩),(74,oL ⟨v.again,sd3,v.tries,v.ha,hs2,v.ht⟩),(4,oA ⟨v.again,sd3,v.tries,v.ha,hs2,v.ht⟩),(5,oT v),(51,oM m c),(71,oR h2 (tryC c (⟨x.Key,t.sent_,t.end_,t.status_⟩:qc)))] (z7g b m h2 (tryC c (⟨x.Key,t.sent_,t.end_,t.status_⟩:qc)) t.end_ t.status_) (kh (by kernel_rfl) Z) ⟨Z,Z,Z,U⟩ ⟨Z,Z,Z,Z,Z,Z,Z,Z,U⟩ Z (fun _=>Z),fun _ => ?_⟩)))))))
   exact zo ⟨U,(hs2,v.ha,h2),[(3,74),(52,71)],[],U,Z,⟨Z,Z,Z,Z,Z,Z,Z,Z,U⟩,Z,Z,.inl ⟨[],U,Z⟩⟩
  ·refine fE he H fun H=>bE H fun q hq H=>z0w 1 14 4 75 (v.again.length) yw Z Z Z Z (ko q (fun hqq => ?_) (fun hqq => ?_))
   skip
   ·subst hqq
    replace H:=iff_ (b := !true) Z H
    refine gE H fun hag H=>bE H fun d hd H=>?_
    have e1:=(Option.some.inj H).symm
    cases e1
    refine jj 50 4 70 71 Z Z Z yw Z fun h2=>(yo mixed hN Z Z (za (ze Yh Z) (zh (zj tyS3 Z Z) Z (za (ye (z7i _ _ hb) ⟨.inl Z,U⟩) (za (qs Z) (qd Z (zf Z Z Z (zg (.dat _) Z) (zf Z Z Z (zg (.ptr _ _) Z) (zf Z Z Z (zy Z) (zf Z Z Z (ze xf Z) (zf Z Z Z (ze Qn Z) (yd Z Z Z (zj tyS3 Z Z) Z (zf Z Z Z (yb (u':=zn false) (qz Z Z) (vh he)) (za (yn Z Z Z) (qd Z (zf Z Z Z (zg (.ptr _ _) Z) (zf Z Z Z (zy Z) (zf Z Z Z (ze xf Z) (zf Z Z Z (ze z1f Z) (yd Z Z Z (wm xc Z Z Z) Z (zf Z Z Z (zg (.ptr _ _) Z) (zf Z Z Z (zy Z) (zf Z Z Z (ze z8h Z) ?_)))))))))))))))))))))))
    refine yd Z Z Z (zj vp Z Z) Z (zf Z Z Z (zg (.ptr _ _) Z) (zf Z Z Z (zy Z) (zf Z Z Z (ze z8g Z) (yd Z Z Z (zj vp Z Z) Z (zf Z Z Z (ze ky Z) (yd Z Z Z (zj tyS3 Z Z) Z (yd Z Z Z (z8z (id:=75) (es:=List.map yl v.again) (y9f D.s.Budget D.ats v.again t.end_ _ hq) ⟨.inl (.inl (.inl Z)),.inl (.inl (.inl Z)),.inr ⟨congrArg (Slot.row 75) yw,Z⟩,.inl (.inl (.inl Z)),U⟩ (fun _ _ _ _ h=>h)) Z (zf Z Z Z (qs Z) (za (yn Z Z Z) ⟨Z,?_⟩)))))))))
    refine zk false Z (fun h=>(by cases h)) (fun h => ?_)
    refine zp (zd (yo mixed hN Z Z (za (zg (.ptr _ _) Z) (za (zg (.ptr _ _) Z) (za (zy Z) (za (ze z8g Z) (zh (zj vp Z Z) Z (za (ze ky Z) (zh (zj tyS3 Z Z) Z (za (yb (u':=vlst (List.map yl [t.end_])) (qr [[_]] vg ⟨Z,.inl ⟨_,Z,Z,Z⟩,Z,U⟩ Z Z) Z) (zi (jo vg (fun _=>Z) Z Z Z ⟨by simp,by simp; omega⟩ Z) Z ?_)))))))))))
    refine za (zy Z) (za (ze z8g Z) (Zo (Zn vp Z Z yw Z) Z Z ⟨Z,?_⟩))
    refine jj 1 14 75 76 Z Z Z yw Z fun ha2=>(yo mixed hN Z Z (za (zg (.ptr _ _) Z) (za (zg (.ptr _ _) Z) (za (ze ky Z) (zh (zj tyS3 Z Z) Z (za (zg (.ptr _ _) Z) (za (zy Z) (za (ze xf Z) (za (ze z20 Z) (zh (zj tyS3 Z Z) Z (qd Z (za (ym _ Z Z (.inr (.inl ⟨Z,Z⟩))) (za (zg (.ptr _ _) Z) (za (zy Z) (za (ze xf Z) (za (ze Wx Z) (zh (zj tyS3 Z Z) Z (za (ye (y9h _ _ _ d hd) ⟨.inl Z,.inl Z,.inl Z,U⟩) (za (ym _ Z Z (.inl ⟨Z,Z⟩)) (za (zy Z) (za (ze z5d Z) (zi (vf tyS3 Z Z Z Z) Z (za (zy Z) ?_)))))))))))))))))))))))
    refine za (ze y13 Z) (zi (vf tyS3 Z Z Z Z) Z ⟨Z,?_⟩)
    exact ⟨U,(hs2,ha2,h2),[(3,74),(52,71),(4,76)],[],U,Z,⟨Z,Z,Z,Z,Z,Z,Z,Z,U⟩,Z,Z,.inl ⟨[],U,Z⟩⟩
   ·subst hqq
    replace H:=ift (b := !false) Z H
    have e1:(again2,sd3,c2)=(v.again,sd2,finC (tryC c (⟨x.Key,t.sent_,t.end_,t.status_⟩:qc)) t.end_ t.status_):=(Option.some.inj H).symm
    cases e1
    refine jj 50 4 70 71 Z Z Z yw Z fun h2=>(yo mixed hN Z Z (za (ze Yh Z) (zh (zj tyS3 Z Z) Z (za (ye (z7i _ _ hb) ⟨.inl Z,U⟩) (za (qs Z) (qd Z (zf Z Z Z (zg (.dat _) Z) (zf Z Z Z (zg (.ptr _ _) Z) (zf Z Z Z (zy Z) (zf Z Z Z (ze xf Z) (zf Z Z Z (ze Qn Z) (yd Z Z Z (zj tyS3 Z Z) Z (zf Z Z Z (yb (u':=zn false) (qz Z Z) (vh he)) (za (yn Z Z Z) (qd Z (zf Z Z Z (zg (.ptr _ _) Z) (zf Z Z Z (zy Z) (zf Z Z Z (ze xf Z) (zf Z Z Z (ze z1f Z) (yd Z Z Z (wm xc Z Z Z) Z (zf Z Z Z (zg (.ptr _ _) Z) (zf Z Z Z (zy Z) (zf Z Z Z (ze z8h Z) ?_)))))))))))))))))))))))
    refine yd Z Z Z (zj vp Z Z) Z (zf Z Z Z (zg (.ptr _ _) Z) (zf Z Z Z (zy Z) (zf Z Z Z (ze z8g Z) (yd Z Z Z (zj vp Z Z) Z (zf Z Z Z (ze ky Z) (yd Z Z Z (zj tyS3 Z Z) Z (yd Z Z Z (z8z (id:=75) (es:=List.map yl v.again) (y9f D.s.Budget D.ats v.again t.end_ _ hq) ⟨.inl (.inl (.inl Z)),.inl (.inl (.inl Z)),.inr ⟨congrArg (Slot.row 75) yw,Z⟩,.inl (.inl (.inl Z)),U⟩ (fun _ _ _ _ h=>h)) Z (zf Z Z Z (qs Z) (za (yn Z Z Z) ⟨Z,?_⟩)))))))))
    refine zk true Z (fun h => ?_) (fun h=>(by cases h))
    refine zd (wj 4 50 b (.dat (vval (PB b))) Z (fun g w M v hb h=>jc hb h) (jj 1 14 75 76 Z Z Z yw Z fun ha2=>(jd (ι:=Unit) (os1:=[_,_,_,_,_]) (os2:=[]) hN Z Z Z (qd Z (za (ze ky Z) (zh (zj tyS3 Z Z) Z (za (ze Yh Z) (zh (zj tyS3 Z Z) Z ⟨_,_,uz [(91,.dat (vval (PB b))),(93,.dat (vint t.end_)),(95,.dat (vint t.status_))] [(1,oP D ⟨v.again,sd3,v.tries,ha2,hs2,v.ht⟩),(2,oS D ⟨v.again,sd3,v.tries,ha2,hs2,v.ht⟩),(74,oL ⟨v.again,sd3,v.tries,ha2,hs2,v.ht⟩),(76,oA ⟨v.again,sd3,v.tries,ha2,hs2,v.ht⟩),(5,oT v),(51,oM m c),(71,oR h2 (tryC c (⟨x.Key,t.sent_,t.end_,t.status_⟩:qc)))] (z7g b m h2 (tryC c (⟨x.Key,t.sent_,t.end_,t.status_⟩:qc)) t.end_ t.status_) (kh (by kernel_rfl) Z) ⟨Z,Z,Z,U⟩ ⟨Z,Z,Z,Z,Z,Z,Z,Z,U⟩ Z (fun _=>Z),fun _ => ?_⟩))))))))
    exact zo ⟨U,(hs2,ha2,h2),[(3,74),(52,71),(4,76)],[],U,Z,⟨Z,Z,Z,Z,Z,Z,Z,Z,U⟩,Z,Z,.inl ⟨[],U,Z⟩⟩
 ·subst hbb
  replace H:=ift (b := !false || decide ((((c.out_.Tries++[(⟨x.Key,t.sent_,t.end_,t.status_⟩:qc)]).length:Int))=D.s.Tries)) Z H
  have e1:(again2,sd3,c2)=(v.again,sd2,finC (tryC c (⟨x.Key,t.sent_,t.end_,t.status_⟩:qc)) t.end_ t.status_):=(Option.some.inj H).symm
  cases e1
  refine jj 50 4 70 71 Z Z Z yw Z fun h2=>(yo mixed hN Z Z (za (ze Yh Z) (zh (zj tyS3 Z Z) Z (za (ye (z7i _ _ hb) ⟨.inl Z,U⟩) (za (qs Z) (qd Z (zc Z Z Z (zc Z Z Z (zc Z Z Z (zc Z Z Z (zc Z Z Z (zc Z Z Z (zc Z Z Z (za (yh Z Z Z) (qd Z (zc Z Z Z (zc Z Z Z (zc Z Z Z (zc Z Z Z (zc Z Z Z (zc Z Z Z (zc Z Z Z (zc Z Z Z ?_)))))))))))))))))))))))
  refine zc Z Z Z (zc Z Z Z (zc Z Z Z (zc Z Z Z (zc Z Z Z (zc Z Z Z (zc Z Z Z (zc Z Z Z (zc Z Z Z (za (yh Z Z Z) ⟨Z,?_⟩)))))))))
  refine zk true Z (fun h => ?_) (fun h=>(by cases h))
  refine zd (wj 4 50 b (.dat (vval (PB b))) Z (fun g w M v hb h=>jc hb h) (jd (ι:=Unit) (os1:=[_,_,_,_,_]) (os2:=[]) hN Z Z Z (qd Z (za (ze ky Z) (zh (zj tyS3 Z Z) Z (za (ze Yh Z) (zh (zj tyS3 Z Z) Z ⟨_,_,uz [(91,.dat (vval (PB b))),(93,.dat (vint t.end_)),(95,.dat (vint t.status_))] [(1,oP D ⟨v.again,sd3,v.tries,v.ha,hs2,v.ht⟩),(2,oS D ⟨v.again,sd3,v.tries,v.ha,hs2,v.ht⟩),(74,oL ⟨v.again,sd3,v.tries,v.ha,hs2,v.ht⟩),(4,oA ⟨v.again,sd3,v.tries,v.ha,hs2,v.ht⟩),(5,oT v),(51,oM m c),(71,oR h2 (tryC c (⟨x.Key,t.sent_,t.end_,t.status_⟩:qc)))] (z7g b m h2 (tryC c (⟨x.Key,t.sent_,t.end_,t.status_⟩:qc)) t.end_ t.status_) (kh (by kernel_rfl) Z) ⟨Z,Z,Z,U⟩ ⟨Z,Z,Z,Z,Z,Z,Z,Z,U⟩ Z (fun _=>Z),fun _ => ?_⟩)))))))
  exact zo ⟨U,(hs2,v.ha,h2),[(3,74),(52,71)],[],U,Z,⟨Z,Z,Z,Z,Z,Z,Z,Z,U⟩,Z,Z,.inl ⟨[],U,Z⟩⟩
end Go.Proofs.YtgdijjmdfcgifaaGreat
