/- A day of calls: a try begins. -/
import Derived.Test.YtgdijjmdfcgifaaGreatXdn
namespace Go.Proofs.YtgdijjmdfcgifaaGreat
open Go.RowKit Go.ChangeMaps Go.MapKept
set_option linter.unusedVariables false
set_option maxRecDepth 100000
set_option maxHeartbeats 2000000
theorem x54 {x:zz×Bool} {w:World} {M M':Blks} {v:Value} (h:(zu [vagg (qq x.1),zn x.2]).p w M v):(zu [vagg (qq x.1),zn x.2]).p w M' v:=by
 obtain ⟨l,rfl,h1,h2⟩:=h
 refine ⟨l,Z,h1,fun j u hj => ?_⟩
 obtain ⟨y,q1,q2⟩:=h2 j u hj
 refine ⟨y,q1,?_⟩
 match j,hj with
 | 0,hj =>
  cases hj
  obtain ⟨l2,rfl,h3,h4⟩:=q2
  refine ⟨l2,Z,h3,fun j u hj => ?_⟩
  obtain ⟨z,q3,q4,q5⟩:=h4 j u hj
  refine ⟨z,q3,?_,q5⟩
  match j,hj with
  | 0,hj=>cases hj; exact q4
  | 1,hj=>cases hj; exact q4
  | 2,hj=>cases hj; exact q4
  | 3,hj=>cases hj; exact q4
  | 4,hj=>cases hj; exact q4
  | j+5,hj=>simp at hj
 | 1,hj=>cases hj; exact q2
 | j+2,hj=>simp at hj
theorem x8b (D:Dc) (v:Dv) (b m:Nat) (h:Value) (c:yj) (k v3:Int) (hk:at? D.bs k=some b) (r:List Int×List zt×qj×yj) (H:We D.s D.ph D.ats v.again v.tries v.sd c k v3=some r):FnI Tryz.prog 74 [vval (PB D.b1),vint k,vint v3] (litO D v b m h c) (fun _:Value×Value×Value×Value=>zu []) (fun y=>litO D ⟨r.1,r.2.2.1,r.2.1,y.2.1,y.1,y.2.2.1⟩ b m y.2.2.2 r.2.2.2):=by
 refine Wm (by kernel_rfl) Tryz.func74 Z Z Z Z fun X hN => ?_
 refine x07 ?_
 unfold We at H
 refine bE H fun i hi H=>wj 0 1 D.b1 (.ptr 1 0) Z (fun g w M v hb h=>vx hb h) (zb hN Z (za (zg (.ptr _ _) Z) (za (zy Z) (za (ze z1d Z) (zh (zj z1a Z Z) Z (qd Z (za (js (C:=fun b=>[vval (PB b)]) z5m (fun _=>Z) Z Z hk) (za (yt z2w Z (yz (yp hk).2) Z) (qe Z (zd (wj 0 1 D.b1 (.dat (vval (PB D.b1))) Z (fun g w M v hb h=>jc hb h) (zm hN Z (qd Z (qd Z (qd Z (z3c (rd:=[(1,oP D v),(2,oS D v),(3,oL v),(5,oT v),(50,oC b m h c),(51,oM m c)]) (z29 [(1,oP D v),(2,oS D v),(3,oL v),(5,oT v),(50,oC b m h c),(51,oM m c)] (x8f D.s D.ph vtt vtt vtt vtt vtt vtt vtt vtt vtt v.tries v.sd c.tried_ v3 i hi) (fun _ _ _ _ h=>h) (fun X own g a w hx hr hm he=>by rw [Array.toList_map]; exact xz ((by rw [show a.eval (.tmp 20)=PB D.b1 from hx (.tmp 20) (by simp)]; exact y0i he (hr (1,oP D v) (by simp)) (hr (2,oS D v) (by simp)) (hr (3,oL v) (by simp)) (hr (5,oT v) (by simp)) (fun b hb=>hm (1,oP D v) b (by simp) hb) (fun b hb=>hm (2,oS D v) b (by simp) hb) (fun b hb=>hm (3,oL v) b (by simp) hb) (fun b hb=>hm (5,oT v) b (by simp) hb) (u:=vtt) fun _ _=>U)) (xz ((by rw [show a.eval (.tmp 21)=PB b from hx (.tmp 21) (by simp)]; exact x7i he (hr (50,oC b m h c) (by simp)) (hr (51,oM m c) (by simp)) (fun b1 hb=>hm (50,oC b m h c) b1 (by simp) hb) (fun b1 hb=>hm (51,oM m c) b1 (by simp) hb))) (xz (V.keep (vint v3) he (hx (.tmp 22) (by simp))) (z25))))) ⟨Z,Z,Z,Z,Z,Z,U⟩ ?_))))))))))))))))
 refine qe Z (zd (zd (wj 0 1 D.b1 (.ptr 1 0) Z (fun g w M v hb h=>vx hb h) (wj 6 50 b (.ptr 50 0) Z (fun g w M v hb h=>vx hb h) (zm hN Z (qd Z (za (zq Z Z) (zk _ Z (fun h1 => ?_) (fun h1 => ?_)))))))))
 ·refine tE h1 H fun H=>bE H fun st hst H=>?_
  unfold z6i at hst
  refine zb hN Z (qe Z (zd (zd (z0w 50 4 52 70 (c.out_.Tries.length) yw Z Z Z Z (zm hN Z (za (zg (.ptr _ _) Z) (za (zy Z) (za (ze Wv Z) (za (ze kw Z) (zh (zj ku Z Z) Z (zh (xt Zi Z Z) Z (qe Z (zb hN Z (qd Z (za (vn Z Z) (zk _ Z (fun h2 => ?_) (fun h2 => ?_)))))))))))))))))
  ·skip
   replace hst:=ift h2 hst
   obtain ⟨xl,hxl,hst⟩:=bnd hst
   cases hst
   refine zm hN Z (za (zg (.ptr _ _) Z) (za (zy Z) (za (ze Wv Z) (za (ze kw Z) (zh (zj ku Z Z) Z (qd Z (za (ym _ Z Z (.inr (.inl ⟨Z,Z⟩))) (zh (Yl z5l Z Z Z hxl) Z (za (ql Zl Z) (zh (xr tyS3 Z Z (yp hxl).2 Z) Z (qe Z (zd (jj 50 4 70 71 Z Z Z yw Z fun hh2=>(wj 6 50 b (.dat (vval (PB b))) Z (fun g w M v hb h=>jc hb h) (jd (ι:=Unit) (os1:=[_,_,_]) (os2:=[]) hN Z Z Z (qd Z (qd Z (qd Z ⟨_,_,uz [(44,.dat (vval (PB b))),(45,.dat (vint v3)),(46,.dat (vint _))] [(1,oP D v),(2,oS D v),(3,oL v),(4,oA v),(5,oT v),(51,oM m c),(71,oR hh2 c)] (z7g b m hh2 c v3 _) (kh (by kernel_rfl) Z) ⟨Z,Z,Z,U⟩ ⟨Z,Z,Z,Z,Z,Z,Z,Z,U⟩ Z (fun _=>Z),fun _ => ?_⟩))))))))))))))))))
   refine zo ?_
   cases H
   exact ⟨U,(v.hs,v.ha,v.ht,hh2),[(52,71)],[],U,Z,⟨Z,Z,Z,Z,Z,Z,Z,Z,U⟩,Z,Z,.inl ⟨[],U,Z⟩⟩
  ·skip
   replace hst:=iff_ h2 hst
   cases hst
   refine zp (zd (jj 50 4 70 71 Z Z Z yw Z fun hh2=>(wj 6 50 b (.dat (vval (PB b))) Z (fun g w M v hb h=>jc hb h) (jd (ι:=Unit) (os1:=[_,_,_]) (os2:=[]) hN Z Z Z (qd Z (qd Z (qd Z ⟨_,_,uz [(44,.dat (vval (PB b))),(45,.dat (vint v3)),(46,.dat (vint _))] [(1,oP D v),(2,oS D v),(3,oL v),(4,oA v),(5,oT v),(51,oM m c),(71,oR hh2 c)] (z7g b m hh2 c v3 _) (kh (by kernel_rfl) Z) ⟨Z,Z,Z,U⟩ ⟨Z,Z,Z,Z,Z,Z,Z,Z,U⟩ Z (fun _=>Z),fun _ => ?_⟩)))))))
   refine zo ?_
   cases H
   exact ⟨U,(v.hs,v.ha,v.ht,hh2),[(52,71)],[],U,Z,⟨Z,Z,Z,Z,Z,Z,Z,Z,U⟩,Z,Z,.inl ⟨[],U,Z⟩⟩
 ·refine fE h1 H fun H=>zp (zb hN Z (qd Z (qd Z (qd Z (qd Z (za (zg (.ptr _ _) Z) (za (zy Z) (za (ze xf Z) (za (ze z1g Z) (zh (zj tyS3 Z Z) Z (za (ym _ Z Z (.inl ⟨Z,Z⟩)) (za (yb (u':=vagg (yv (⟨k,i,v3,wr (v3+D.s.Timeout),0⟩:zt))) (vq [(0,[vint k]),(1,[vint i]),(2,[vint v3]),(3,[vint (wr (v3+D.s.Timeout))])] z07 x2x Z ⟨Z,.inl ⟨_,Z,Z,Z⟩,Z,Z,.inl ⟨_,Z,Z,Z⟩,Z,Z,.inl ⟨_,Z,Z,Z⟩,Z,Z,.inl ⟨_,Z,Z,Z⟩,Z,U⟩) Z) (zi (qh 61 z07 Z) Z (zi (qf ja Z Z Z Z) Z (qi (ι:=Int×Int) (fun y=>[(0,.ptr 1 0),(1,.dat (vint k)),(2,.dat (vint v3)),(6,.ptr 50 0),(7,.dat (vint i)),(10,.ptr 61 0)]) (fun y=>[(1,oP D v),(2,oS D v),(3,oL v),(4,oA v),(5,oT v),(50,oC b m h c),(51,oM m c),(52,oR h c),(61,.box none 122 [.dat (vint k),.dat (vint i),.dat (vint v3),.dat (vint y.1),.dat (vint y.2)])]) (fun y=>uk D.s D.ats v.again v.tries v.sd c k i v3 y.1 y.2=some r) (fun y=>Z) ?_ ?_)))))))))))))))
  ·skip
   refine zd (bE H fun x hxb H=>wj 0 1 D.b1 (.dat (vval (PB D.b1))) Z (fun g w M v hb h=>jc hb h) (zm hN Z (qd Z (qd Z (qd Z (z3c (rd:=[(1,oP D v),(2,oS D v),(3,oL v),(5,oT v)]) (z29 [(1,oP D v),(2,oS D v),(3,oL v),(5,oT v)] (x97 vtt vtt (zx [xa v.sd] 0 0) vtt (vlst (List.map yv v.tries)) ⟨D.s,D.ph,[],[],none,[],[]⟩ i v3 x hxb) (fun w M M' v h=>x54 h) (fun X own g a w hx hr hm he=>by rw [Array.toList_map]; exact xz ((by rw [show a.eval (.tmp 60)=PB D.b1 from hx (.tmp 60) (by simp)]; exact y0i he (hr (1,oP D v) (by simp)) (hr (2,oS D v) (by simp)) (hr (3,oL v) (by simp)) (hr (5,oT v) (by simp)) (fun b hb=>hm (1,oP D v) b (by simp) hb) (fun b hb=>hm (2,oS D v) b (by simp) hb) (fun b hb=>hm (3,oL v) b (by simp) hb) (fun b hb=>hm (5,oT v) b (by simp) hb) (u:=vtt) fun _ _=>U)) (xz (V.keep (vint i) he (hx (.tmp 61) (by simp))) (xz (V.keep (vint v3) he (hx (.tmp 62) (by simp))) (z25))))) ⟨Z,Z,Z,Z,U⟩ ?_))))))
   refine qd Z (za (uc Z Z) (za (uc Z Z) (zi (qh 62 Qg Z) Z (zi (qf kv Z Z Z Z) Z (qe Z (zd (wj 0 1 D.b1 (.ptr 1 0) Z (fun g w M v hb h=>vx hb h) (yo mixed hN Z Z (qd Z (qd Z (qt Z Z (fun hc=>ze z1e Z) (z0e Z Z (fun hc=>zj tyS3 (cnd (c:=x.2) hc) Z) Z z0y (qt Z Z (fun hc=>zg (.ptr 1 0) Z) (qt Z Z (fun hc=>zy (cnd (c:=x.2) hc)) (qt Z Z (fun hc=>ze xf (cnd (c:=x.2) hc)) (qt Z Z (fun hc=>ze z1g (cnd (c:=x.2) hc)) (z0e Z Z (fun hc=>zj tyS3 (cnd (c:=x.2) hc) Z) Z z0y (qt Z Z (fun hc=>xi (cnd (c:=x.2) hc) (cnd (c:=x.2) hc)) (za (uv Z (fun hb=>(cnd (c:=x.2) hb)) Z) ⟨Z,?_⟩)))))))))))))))))))
   refine zk _ Z (fun h3 => ?_) (fun h3 => ?_)
   ·refine tE h3 H fun H=>yo mixed hN Z Z (qd Z (za (ze z1e Z) (zh (zj tyS3 Z Z) Z (za (ym _ Z Z (.inl ⟨Z,Z⟩)) (za (ze z5f Z) (zh (zj tyS3 Z Z) Z (za (ze ky Z) (zi (vf tyS3 Z Z Z Z) Z (za (ze Yh Z) (zi (vf tyS3 Z Z Z Z) Z ⟨Z,?_⟩))))))))))
    exact ⟨(_,_),H,⟨Z,Z,Z,Z,Z,Z,U⟩,⟨Z,Z,Z,Z,Z,Z,Z,Z,Z,U⟩⟩
   ·exact fE h3 H fun H=>zp ⟨(_,_),H,⟨Z,Z,Z,Z,Z,Z,U⟩,⟨Z,Z,Z,Z,Z,Z,Z,Z,Z,U⟩⟩
  ·rintro ⟨e,st⟩ H
   unfold uk at H
   refine zb hN Z (za (zg (.ptr _ _) Z) (za (zy Z) (za (ze z5d Z) (zi (vf tyS3 Z Z Z Z) Z (zd (gE H fun hik H=>vu 50 2 51 m (.mp 51) Z Z Z (fun g w M v hb h=>z1l hb h) (zm hN Z (za (zg (.ptr _ _) Z) (za (zy Z) (za (ze y54 Z) (zh (zj y5p Z Z) Z (qd Z (zi (x4f i true y12 Z Z Z hik) Z (zd (zd (vu 50 2 51 m (.dat (vval (.map (some m)))) Z Z Z (fun g w M v hb h=>ju hb h) (zm hN Z (za (ze ky Z) (zh (zj tyS3 Z Z) Z (qd Z (za (qz Z Z) (zk _ Z (fun h4 => ?_) (fun h4 => ?_)))))))))))))))))))))))
   ·refine tE h4 H fun H=>bE H fun r1 hr1 H=>?_
    cases H
    refine zd (wj 0 1 D.b1 (.dat (vval (PB D.b1))) Z (fun g w M v hb h=>jc hb h) (jd (ι:=Value×Value×Value) (os1:=[_,_]) (os2:=[]) hN Z Z Z (qd Z (zh (wm ja Z Z Z) Z ⟨_,_,uz [(97,.dat (vval (PB D.b1))),(98,.dat (vagg (yv (⟨k,i,v3,e,st⟩:zt))))] [] (y9b D v b m h (⟨1,c.start_,ptG c.tried_ i true,c.out_⟩:yj) (⟨k,i,v3,e,st⟩:zt) hk r1.1 r1.2.1 r1.2.2 hr1) (kh (by kernel_rfl) Z) ⟨Z,Z,U⟩ ⟨Z,Z,Z,Z,Z,Z,Z,Z,U⟩ Z (fun _=>Z),fun y => ?_⟩))))
    exact zo ⟨U,(y.1,y.2.1,v.ht,y.2.2),[],[],U,Z,⟨Z,Z,Z,Z,Z,Z,Z,Z,U⟩,Z,Z,.inl ⟨[],U,Z⟩⟩
   ·refine fE h4 H fun H=>gE H fun hts H=>?_
    cases H
    refine zp (z0w 1 17 5 73 (v.tries.length) yw Z Z Z Z (yo mixed hN Z Z (za (zg (.ptr _ _) Z) (za (zg (.ptr _ _) Z) (za (zy Z) (za (ze z2z Z) (zh (zj Ye Z Z) Z (zh (wm ja Z Z Z) Z (za (yb (u':=vlst (List.map yv [(⟨k,i,v3,e,st⟩:zt)])) (qr [yv (⟨k,i,v3,e,st⟩:zt)] z8e ⟨Z,.inr Z,Z,U⟩ Z Z) Z) (zi (jo z8e (fun _=>Z) Z Z Z ⟨by simp,by simp; omega⟩ Z) Z ?_))))))))))
    refine za (zy Z) (za (ze z2z Z) (Zo (Zn Ye Z Z yw Z) Z Z ⟨Z,?_⟩))
    exact w0v 1 17 73 74 Z Z Z yw Z fun ht2=>(x0h ⟨U,(v.hs,v.ha,ht2,h),[(5,74)],[],U,Z,⟨Z,Z,Z,Z,Z,Z,Z,Z,U⟩,Z,Z,.inl ⟨[],U,Z⟩⟩)
end Go.Proofs.YtgdijjmdfcgifaaGreat
