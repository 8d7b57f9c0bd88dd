/- Walks along the models. Printed by a program. -/
import Derived.Test.YtahcnngcpjkpgabGreatDoorZww7
namespace Go.Proofs.YtahcnngcpjkpgabGreatDoor
open Go.RowKit
set_option linter.unusedVariables false
set_option maxRecDepth 100000
set_option maxHeartbeats 2000000
theorem w8d (v1:yh) (v2:yh) (v3:Int) (r:(Int)) (H:z52 v1 v2 v3=some r):Fn Tryz.prog 58 [vagg (ko v1),vagg (ko v2),vint v3] (zr [vint r]):=by
 refine ⟨by kernel_rfl,yf (us:=[vint r]) Tryz.func58 Z Z Z Z fun X hN => ?_⟩
 unfold z52 at H
 refine zb hN Z (zl (we 1 Z) Z (zl (we 2 Z) Z (qe Z (zb hN Z (qd Z (zm (yr ub Z Z Z) Z (bE H fun r4 h5 H=>za (zo (y9a v2 r4 h5) ⟨.inl Z,U⟩) (za (ym _ Z Z (.inr (.inl ⟨Z,Z⟩))) (qe Z (zb hN Z (za (w2c) (zd (yc (zb hN Z (za (zq y1k Z) (zm (zt tyS4 Z Z) Z (qd Z (yp Z Z (fun hc=>zq y1k Z) (Wx Z Z (fun hc=>zt tyS4 (cnd (c:=(!v1.NoCache)) hc) Z) Z uh (za (wy Z Z (fun hb=>(cnd (c:=(!v1.NoCache)) (notI hb)))) (qe Z (zh _ Z (fun h6 => ?_) (fun h6 => ?_)))))))))))))))))))))))
 ·refine tE h6 H fun H=>zb hN Z (qe Z (zk ?_))
  cases H
  exact ⟨U,.inl Z,U⟩
 ·refine fE h6 H fun H=>yg (ι:=Bool) (fun i=>[(3,.ptr 1 0),(4,.ptr 2 0),(7,.dat (vint (wr (v3 - r4)))),(20,.dat (zi i))]) (fun i=>[(1,.box none 121 [.dat (zi v1.NoStore),.dat (zi v1.NoCache),.dat (zi v1.Private),.dat (zi v1.Public),.dat (zi v1.Must),.dat (zi v1.Only),.dat (vint v1.MaxAge),.dat (vint v1.Shared),.dat (vint v1.Stale),.dat (vint v1.OnError),.dat (vint v1.MaxStale),.dat (vint v1.MinFresh)]),(2,.box none 121 [.dat (zi v2.NoStore),.dat (zi v2.NoCache),.dat (zi v2.Private),.dat (zi v2.Public),.dat (zi v2.Must),.dat (zi v2.Only),.dat (vint v2.MaxAge),.dat (vint v2.Shared),.dat (vint v2.Stale),.dat (vint v2.OnError),.dat (vint v2.MaxStale),.dat (vint v2.MinFresh)])]) (fun i=>We v1 v2 v3 r4 i=some r) (fun i=>Z) ?_ ?_
  ·skip
   refine zj hN Z (qd Z (za (ye Z Z) (qd Z (yn (j:=2) Z Z (fun h7 => ?_) (fun h7 => ?_) Z))))
   ·refine u1 h7 H fun h8 H=>zf Z Z h7 (ze (.dat _) Z) (zf Z Z h7 (ze (.dat _) Z) (zf Z Z h7 (zq z7x Z) (vc Z Z h7 (zt tyS3 Z Z) Z (bE H fun r9 h10 H=>zf Z Z h7 (z1q (us:=[vint v3,vint v1.MaxAge]) (cs:=[]) (w8c v3 v1.MaxAge r9 h10) Z ⟨.inl Z,.inl Z,U⟩) (za (ya Z (bTT h8) Z) (qd Z (yn (j:=9) Z Z (fun h11 => ?_) (fun h11 => ?_) Z)))))))
    ·refine u1 h11 H fun h12 H=>zf Z Z h11 (zq y50 Z) (vc Z Z h11 (zt tyS3 Z Z) Z (zf Z Z h11 (yq Z Z) (zf Z Z h11 (ze (.dat _) Z) (yn (j:=13) Z Z (fun h13 => ?_) (fun h13 => ?_) Z))))
     ·exact u3 h13 H fun h14 H=>zf Z Z h13 (ze (.dat _) Z) (zf Z Z h13 (zq y50 Z) (vc Z Z h13 (zt tyS3 Z Z) Z (gE H fun h15 H=>zf Z Z h13 (x2i Z h15) (zf Z Z h13 (ym _ Z Z (.inr (.inr ⟨Z,Z⟩))) (zf Z Z h13 (vm Z Z) (zf Z Z h11 (zv Z (bFF h14) Z) (za (ya Z (bTT h12) Z) (qe Z ⟨decide ((wr (v3 - r4))≤(wr ((-v1.MinFresh) * 1000))),H,⟨Z,Z,Z,Z,U⟩,⟨Z,Z,U⟩⟩))))))))
     ·exact u4 h13 H fun h16 H=>zc Z Z h13 (zc Z Z h13 (zc Z Z h13 (zc Z Z h13 (zc Z Z h13 (zc Z Z h13 (zf Z Z h11 (ya Z (bTT h16) Z) (za (ya Z (bTT h12) Z) (qe Z ⟨true,H,⟨Z,Z,Z,Z,U⟩,⟨Z,Z,U⟩⟩))))))))
    ·exact u2 h11 H fun h17 H=>zc Z Z h11 (zc Z Z h11 (zc Z Z h11 (zc Z Z h11 (yj Z Z (yj Z Z (yj Z Z (yj Z Z (yj Z Z (yj Z Z (zc Z Z h11 (za (zv Z (bFF h17) Z) (qe Z ⟨false,H,⟨Z,Z,Z,Z,U⟩,⟨Z,Z,U⟩⟩))))))))))))
   ·exact u2 h7 H fun h18 H=>zc Z Z h7 (zc Z Z h7 (zc Z Z h7 (zc Z Z h7 (zc Z Z h7 (za (zv Z (bFF h18) Z) (qd Z (zc Z Z Z (zc Z Z Z (zc Z Z Z (zc Z Z Z (yj Z Z (yj Z Z (yj Z Z (yj Z Z (yj Z Z (yj Z Z (zc Z Z Z (za (zv Z Z Z) (qe Z ⟨false,H,⟨Z,Z,Z,Z,U⟩,⟨Z,Z,U⟩⟩)))))))))))))))))))
  ·rintro v19 H
   replace H:We v1 v2 v3 r4 v19=some r:=H
   unfold We at H
   refine zh _ Z (fun h20 => ?_) (fun h20 => ?_)
   ·refine tE h20 H fun H=>zb hN Z (qe Z (zk ?_))
    cases H
    exact ⟨U,.inl Z,U⟩
   ·refine fE h20 H fun H=>zb hN Z (qd Z (za (ye Z Z) (qd Z (yp Z Z (fun hc=>zq y5z Z) (Wx Z Z (fun hc=>zt tyS4 (cnd (c:=(!(decide ((wr (v3 - r4)) < 0)))) hc) Z) Z uh (za (wy Z Z (fun hb=>(cnd (c:=(!(decide ((wr (v3 - r4)) < 0)))) (notI hb)))) (qe Z (zh _ Z (fun h21 => ?_) (fun h21 => ?_)))))))))
    ·refine tE h21 H fun H=>zb hN Z (qe Z (zk ?_))
     cases H
     exact ⟨U,.inl Z,U⟩
    ·refine fE h21 H fun H=>zb hN Z (za (zq y51 Z) (zm (zt tyS3 Z Z) Z (za (yy Z Z) (qd Z (ql Z Z (fun hc=>ze (.dat _) Z) (ql Z Z (fun hc=>zq y51 Z) (z4i Z Z (fun hc=>zt tyS3 (cnd (c:=(decide (v1.MaxStale≠(-1)))) hc) Z) Z uh (ql Z Z (fun hc=>ym _ (cnd (c:=(decide (v1.MaxStale≠(-1)))) hc) Z (.inr (.inr ⟨Z,Z⟩))) (ql Z Z (fun hc=>vm (cnd (c:=(decide (v1.MaxStale≠(-1)))) hc) (cnd (c:=(decide (v1.MaxStale≠(-1)))) hc)) (za (wz Z (fun hb=>(cnd (c:=(decide (v1.MaxStale≠(-1)))) hb)) Z) (qe Z (zh _ Z (fun h22 => ?_) (fun h22 => ?_)))))))))))))
     ·refine tE h22 H fun H=>zb hN Z (qe Z (zk ?_))
      cases H
      exact ⟨U,.inl Z,U⟩
     ·refine fE h22 H fun H=>zb hN Z (za (zq y5x Z) (zm (zt tyS3 Z Z) Z (za (yy Z Z) (qd Z (ql Z Z (fun hc=>ze (.dat _) Z) (ql Z Z (fun hc=>zq y5x Z) (z4i Z Z (fun hc=>zt tyS3 (cnd (c:=(decide (v2.Stale≠(-1)))) hc) Z) Z uh (ql Z Z (fun hc=>ym _ (cnd (c:=(decide (v2.Stale≠(-1)))) hc) Z (.inr (.inr ⟨Z,Z⟩))) (ql Z Z (fun hc=>ye (cnd (c:=(decide (v2.Stale≠(-1)))) hc) (cnd (c:=(decide (v2.Stale≠(-1)))) hc)) (za (wz Z (fun hb=>(cnd (c:=(decide (v2.Stale≠(-1)))) hb)) Z) (qd Z (ql Z Z (fun hc=>zq z7x Z) (z4i Z Z (fun hc=>zt tyS3 (cnd (c:=((decide (v2.Stale≠(-1))) && (decide ((wr (v3 - r4)) < (wr (v2.Stale * 1000)))))) hc) Z) Z uh (ql Z Z (fun hc=>yq (cnd (c:=((decide (v2.Stale≠(-1))) && (decide ((wr (v3 - r4)) < (wr (v2.Stale * 1000)))))) hc) Z) (za (wz Z (fun hb=>(cnd (c:=((decide (v2.Stale≠(-1))) && (decide ((wr (v3 - r4)) < (wr (v2.Stale * 1000)))))) hb)) Z) (qe Z (zh _ Z (fun h23 => ?_) (fun h23 => ?_))))))))))))))))))
      ·refine tE h23 H fun H=>zb hN Z (qe Z (zk ?_))
       cases H
       exact ⟨U,.inl Z,U⟩
      ·refine fE h23 H fun H=>zn (zb hN Z (qe Z (zk ?_)))
       cases H
       exact ⟨U,.inl Z,U⟩
theorem w78 (s1:wx) (v2:zw) (v3:Int) (r:(yb×wx)) (H:z9m s1 v2 v3=some r):Imp Tryz.prog 60 110 (y5a s1) [vagg (qq v2),vint v3] (zr [vagg (qf r.1)]) (y5a r.2):=by
 refine uf (us:=[vagg (qf r.1)]) (cs':=(y5a r.2)) (by kernel_rfl) Tryz.func60 Z Z Z Z fun X bl hN => ?_
 unfold z9m at H
 refine zb hN Z (zl (we 1 Z) Z (zl (qt 2 vu Z) Z (zb hN Z (za (ze (.ptr _ _) Z) (za (qn Z) (za (zq Wn Z) (za (zq z1j Z) (zm (yr qg Z Z Z) Z (bE H fun r4 h5 H=>za (zo (x6p s1.Entry.Response r4 h5) ⟨.inl Z,U⟩) (zl (qt 3 vu Z) Z (zl (yx qg Z Z Z Z) Z (zb hN Z (za (ze (.ptr _ _) Z) (za (qn Z) (za (zq Wn Z) (zm (yr y5s Z Z Z) Z (qd Z (bE H fun r6 h7 H=>za (zo (x6q s1.Entry v3 r6 h7) ⟨.inl Z,.inl Z,U⟩) (gE H fun h8 H=>za (x2f Z Z h8.1 h8.2) (bE H fun r9 h10 H=>?_))))))))))))))))))))
 refine za (zo (y3s (r6 / 1000) r9 h10) ⟨.inl Z,U⟩) (qe Z (zb hN Z (qe Z (zb hN Z (qe Z (zd (zb hN Z (za (zq kq Z) (zm (zt qu Z Z) Z (za (qh kz Z) (qd Z (yc (ug 9 4 54 2 Z Z Z (gE H fun h15 H=>va (fun (k13:Nat) (s:Bool×(List zg))=>[(4,.ptr 1 0),(6,.ptr 2 0),(7,.ptr 3 0),(8,.dat (vstr r9)),(9,.row 4 s.2.length),(10,.dat (zi s.1)),(28,.dat (vlst (List.map zy r4.Headers))),(29,.dat (vint (r4.Headers.length:Int))),(30,.dat (vint (k13:Int)))]) (fun (k13:Nat) (s:Bool×(List zg))=>[(0,.box (some bl) 110 [.dat (vint s1.Entry.Request.At),.dat (vstr s1.Entry.Request.Method),.dat (vstr s1.Entry.Request.Host),.dat (vstr s1.Entry.Request.Path),.dat (vstr s1.Entry.Request.Query),.dat (vstr s1.Entry.Request.From),.dat (vlst (List.map zy s1.Entry.Request.Headers)),.dat (vstr s1.Entry.Request.Body),.dat (vint s1.Entry.Response.Status),.dat (vlst (List.map zy s1.Entry.Response.Headers)),.dat (vstr s1.Entry.Response.Body),.dat (vint s1.Entry.At),.dat (vlst (List.map zx s1.Entry.Tags)),.dat (vint s1.Entry.Used),.dat (vint s1.own_.At),.dat (vstr s1.own_.Method),.dat (vstr s1.own_.Host),.dat (vstr s1.own_.Path),.dat (vstr s1.own_.Query),.dat (vstr s1.own_.From),.dat (vlst (List.map zy s1.own_.Headers)),.dat (vstr s1.own_.Body)]),(1,.box none 36 [.dat (vint v2.At),.dat (vstr v2.Method),.dat (vstr v2.Host),.dat (vstr v2.Path),.dat (vstr v2.Query),.dat (vstr v2.From),.dat (vlst (List.map zy v2.Headers)),.dat (vstr v2.Body)]),(2,.box none 31 [.dat (vint 0),.dat (vnil),.dat (vstr [])]),(3,.box none 31 [.dat (vint r4.Status),.dat (vlst (List.map zy r4.Headers)),.dat (vstr r4.Body)]),(4,.row 54 2 (List.map zy s.2))]) (false,[]) H ⟨Z,Z,Z,Z,Z,Z,Z,Z,Z,U⟩ ⟨Z,Z,Z,Z,Z,U⟩ (fun _ _=>Z) ?_ ?_))))))))))))))
 ·rintro ⟨v11,l12⟩ H
  replace H:y43 s1 v2 r4 r9 v11 l12=some r:=H
  unfold y43 at H
  refine zb hN Z (za (ye Z Z) (zd (zh _ Z (fun h=>(lt_t h).elim) (fun h => ?_))))
  refine yz (yg (ι:=(List zg)) (fun i=>[(4,.ptr 1 0),(6,.ptr 2 0),(7,.ptr 3 0),(9,.row 4 i.length)]) (fun i=>[(0,.box (some bl) 110 [.dat (vint s1.Entry.Request.At),.dat (vstr s1.Entry.Request.Method),.dat (vstr s1.Entry.Request.Host),.dat (vstr s1.Entry.Request.Path),.dat (vstr s1.Entry.Request.Query),.dat (vstr s1.Entry.Request.From),.dat (vlst (List.map zy s1.Entry.Request.Headers)),.dat (vstr s1.Entry.Request.Body),.dat (vint s1.Entry.Response.Status),.dat (vlst (List.map zy s1.Entry.Response.Headers)),.dat (vstr s1.Entry.Response.Body),.dat (vint s1.Entry.At),.dat (vlst (List.map zx s1.Entry.Tags)),.dat (vint s1.Entry.Used),.dat (vint s1.own_.At),.dat (vstr s1.own_.Method),.dat (vstr s1.own_.Host),.dat (vstr s1.own_.Path),.dat (vstr s1.own_.Query),.dat (vstr s1.own_.From),.dat (vlst (List.map zy s1.own_.Headers)),.dat (vstr s1.own_.Body)]),(1,.box none 36 [.dat (vint v2.At),.dat (vstr v2.Method),.dat (vstr v2.Host),.dat (vstr v2.Path),.dat (vstr v2.Query),.dat (vstr v2.From),.dat (vlst (List.map zy v2.Headers)),.dat (vstr v2.Body)]),(2,.box none 31 [.dat (vint 0),.dat (vnil),.dat (vstr [])]),(3,.box none 31 [.dat (vint r4.Status),.dat (vlst (List.map zy r4.Headers)),.dat (vstr r4.Body)]),(4,.row 54 2 (List.map zy i))]) (fun i=>z3y s1 v2 r4 i=some r) (fun i=>Z) ?_ ?_)
  ·skip
   refine zb hN Z (qd Z (za (yt Z) (zh _ Z (fun h17 => ?_) (fun h17 => ?_))))
   ·refine tE h17 H fun H=>zj hN Z (za (ze (.row _ _) Z) (qd Z (za (yd (u':=vagg (zy (zg.mk [97,103,101] r9))) (qw [(0,[vstr [97,103,101]]),(1,[vstr r9])] ky Yy Z ⟨Z,.inl ⟨_,Z,Z,Z⟩,Z,Z,.inl ⟨_,Z,Z,Z⟩,Z,U⟩) Z) (za (yd (u':=vlst (List.map zy [(zg.mk [97,103,101] r9)])) (qj [_] js ⟨Z,.inr Z,Z,U⟩ Z Z) Z) (gE H fun h18 H=>zl (ke js (fun _=>Z) Z Z Z ⟨by simp,by first | (simp; done) | simpa using h18⟩ Z) Z ?_)))))
    exact za (qs (.row _ _) Z) ⟨(l12++([(zg.mk [97,103,101] r9)])),H,⟨Z,Z,Z,Z,U⟩,⟨Z,Z,Z,Z,Z,U⟩⟩
   ·exact fE h17 H fun H=>zn ⟨l12,H,⟨Z,Z,Z,Z,U⟩,⟨Z,Z,Z,Z,Z,U⟩⟩
  ·rintro v19 H
   replace H:z3y s1 v2 r4 v19=some r:=H
   unfold z3y at H
   refine zb hN Z (za (ze (.row _ _) Z) (za (zq kq Z) (Zn (Zm qu Z Z (by rw [List.length_map]) Z) Z Z ?_)))
   refine yg (ι:=Bs) (fun i=>[(6,.ptr 2 0),(7,.ptr 3 0)]) (fun i=>[(0,.box (some bl) 110 [.dat (vint s1.Entry.Request.At),.dat (vstr s1.Entry.Request.Method),.dat (vstr s1.Entry.Request.Host),.dat (vstr s1.Entry.Request.Path),.dat (vstr s1.Entry.Request.Query),.dat (vstr s1.Entry.Request.From),.dat (vlst (List.map zy s1.Entry.Request.Headers)),.dat (vstr s1.Entry.Request.Body),.dat (vint s1.Entry.Response.Status),.dat (vlst (List.map zy s1.Entry.Response.Headers)),.dat (vstr s1.Entry.Response.Body),.dat (vint s1.Entry.At),.dat (vlst (List.map zx s1.Entry.Tags)),.dat (vint s1.Entry.Used),.dat (vint s1.own_.At),.dat (vstr s1.own_.Method),.dat (vstr s1.own_.Host),.dat (vstr s1.own_.Path),.dat (vstr s1.own_.Query),.dat (vstr s1.own_.From),.dat (vlst (List.map zy s1.own_.Headers)),.dat (vstr s1.own_.Body)]),(2,.box none 31 [.dat (vint 0),.dat (vnil),.dat (vstr [])]),(3,.box none 31 [.dat (vint r4.Status),.row 4 v19.length,.dat (vstr i)]),(4,.row 54 2 (List.map zy v19))]) (fun i=>z7a s1 r4 v19 i=some r) (fun i=>Z) ?_ ?_
   ·refine wi (zb hN Z (za (zq ul Z) (zm (zt tyS9 Z Z) Z (za (vi Z Z) (zh _ Z (fun h20 => ?_) (fun h20 => ?_))))))
    ·refine tE h20 H fun H=>zj hN Z (za (zq z1i Z) (zl (jn tyS9 Z Z Z Z) Z (wm ?_)))
     show Cv _ _ _ _
     exact wd ⟨[],H,⟨Z,Z,U⟩,⟨Z,Z,Z,Z,U⟩⟩
    ·refine fE h20 H fun H=>zn ?_
     show Cv _ _ _ _
     exact wd ⟨r4.Body,H,⟨Z,Z,U⟩,⟨Z,Z,Z,Z,U⟩⟩
   ·rintro c21 H
    replace H:z7a s1 r4 v19 c21=some r:=H
    unfold z7a at H
    refine zd (z1a 3 1 4 rfl rfl rfl (by first | rw [List.length_map] | rfl) ?_)
    refine zj hN Z (zm (yr qg Z Z Z) Z (zl (yx qg Z Z Z Z) Z (zk ?_)))
    cases H
    exact ⟨U,⟨.inl ⟨_,_,_,qf (yb.mk r4.Status v19 c21),Z,Z,Z,Z,qg⟩,U⟩,Z⟩
 ·rintro k13 x16 ⟨v11,l12⟩ q14 h22 h23 H hq14
  replace H:y42 r9 k13 x16 v11 l12=some q14:=H
  unfold y42 at H
  refine zb hN Z (za (ye Z Z) (zd (zh _ Z (fun h => ?_) (fun h=>(lt_f h22 h).elim))))
  refine zn (yg (ι:=Bool×(List zg)) (fun i=>[(4,.ptr 1 0),(6,.ptr 2 0),(7,.ptr 3 0),(8,.dat (vstr r9)),(9,.row 4 i.2.length),(10,.dat (zi i.1)),(28,.dat (vlst (List.map zy r4.Headers))),(29,.dat (vint (r4.Headers.length:Int))),(30,.dat (vint (k13:Int)))]) (fun i=>[(0,.box (some bl) 110 [.dat (vint s1.Entry.Request.At),.dat (vstr s1.Entry.Request.Method),.dat (vstr s1.Entry.Request.Host),.dat (vstr s1.Entry.Request.Path),.dat (vstr s1.Entry.Request.Query),.dat (vstr s1.Entry.Request.From),.dat (vlst (List.map zy s1.Entry.Request.Headers)),.dat (vstr s1.Entry.Request.Body),.dat (vint s1.Entry.Response.Status),.dat (vlst (List.map zy s1.Entry.Response.Headers)),.dat (vstr s1.Entry.Response.Body),.dat (vint s1.Entry.At),.dat (vlst (List.map zx s1.Entry.Tags)),.dat (vint s1.Entry.Used),.dat (vint s1.own_.At),.dat (vstr s1.own_.Method),.dat (vstr s1.own_.Host),.dat (vstr s1.own_.Path),.dat (vstr s1.own_.Query),.dat (vstr s1.own_.From),.dat (vlst (List.map zy s1.own_.Headers)),.dat (vstr s1.own_.Body)]),(1,.box none 36 [.dat (vint v2.At),.dat (vstr v2.Method),.dat (vstr v2.Host),.dat (vstr v2.Path),.dat (vstr v2.Query),.dat (vstr v2.From),.dat (vlst (List.map zy v2.Headers)),.dat (vstr v2.Body)]),(2,.box none 31 [.dat (vint 0),.dat (vnil),.dat (vstr [])]),(3,.box none 31 [.dat (vint r4.Status),.dat (vlst (List.map zy r4.Headers)),.dat (vstr r4.Body)]),(4,.row 54 2 (List.map zy i.2))]) (fun i=>z3x i.1 i.2=some q14) (fun i=>Z) ?_ ?_)
  ·skip
   refine yc (zb hN Z (za (wj uy (fun _=>Z) Z Z h23) (za (xa vx Z (qp h23) Z) (zl (qt 5 ky Z) Z (zl (yx vx Z Z Z Z) Z (zb hN Z (za (zq Wm Z) (zm (zt tyS9 Z Z) Z (bE H fun r24 h25 H=>za (zo (x5v x16.Name [97,103,101] r24 h25) ⟨.inl Z,.inl Z,U⟩) (za (yt Z) (zh _ Z (fun h26 => ?_) (fun h26 => ?_))))))))))))
   ·refine tE h26 H fun H=>zj hN Z (za (ze (.row _ _) Z) (zm (yr vx Z Z Z) Z (za (yd (u':=vlst (List.map zy [x16])) (qj [_] js ⟨Z,.inr Z,Z,U⟩ Z Z) Z) (gE H fun h27 H=>zl (ke js (fun _=>Z) Z Z Z ⟨by simp,by first | (simp; done) | simpa using h27⟩ Z) Z ?_))))
    exact za (qs (.row _ _) Z) ⟨(v11,(l12++[x16])),H,⟨Z,Z,Z,Z,Z,Z,Z,Z,Z,U⟩,⟨Z,Z,Z,Z,Z,U⟩⟩
   ·refine fE h26 H fun H=>zb hN Z (qd Z (za (yt Z) (zh _ Z (fun h28 => ?_) (fun h28 => ?_))))
    ·refine tE h28 H fun H=>zb hN Z (za (ze (.row _ _) Z) (za (zq Wm Z) (zm (zt tyS9 Z Z) Z (qd Z (za (yd (u':=vagg (zy (zg.mk x16.Name r9))) (qw [(0,[vstr x16.Name]),(1,[vstr r9])] ky Yy Z ⟨Z,.inl ⟨_,Z,Z,Z⟩,Z,Z,.inl ⟨_,Z,Z,Z⟩,Z,U⟩) Z) (za (yd (u':=vlst (List.map zy [(zg.mk x16.Name r9)])) (qj [_] js ⟨Z,.inr Z,Z,U⟩ Z Z) Z) (gE H fun h29 H=>zl (ke js (fun _=>Z) Z Z Z ⟨by simp,by first | (simp; done) | simpa using h29⟩ Z) Z ?_)))))))
     exact za (qs (.row _ _) Z) (zj hN Z (qe Z ⟨(true,(l12++[(zg.mk x16.Name r9)])),H,⟨Z,Z,Z,Z,Z,Z,Z,Z,Z,U⟩,⟨Z,Z,Z,Z,Z,U⟩⟩))
    ·exact fE h28 H fun H=>zn ⟨(v11,l12),H,⟨Z,Z,Z,Z,Z,Z,Z,Z,Z,U⟩,⟨Z,Z,Z,Z,Z,U⟩⟩
  ·rintro ⟨v30,v31⟩ H
   replace H:z3x v30 v31=some q14:=H
   unfold z3x at H
   exact zj hN Z (za (qy Z Z (by omega)) (qd Z ⟨_,qm H,⟨Z,Z,Z,Z,Z,Z,Z,Z,Z,U⟩,⟨Z,Z,Z,Z,Z,U⟩⟩))
theorem x5y (s1:(List zg)) (s2:(List zg)) (r:(Bool)) (H:y22 s1 s2=some r):Fn Tryz.prog 16 [vlst (List.map zy s1),vlst (List.map zy s2)] (zr [zi r]):=by
 refine ⟨by kernel_rfl,yf (us:=[zi r]) Tryz.func16 Z Z Z Z fun X hN => ?_⟩
 unfold y22 at H
 refine zb hN Z (qe Z (zd (zb hN Z (qd Z (za (qh kz Z) (qd Z (za (qh kz Z) (za (yy Z Z) (zh _ Z (fun h3 => ?_) (fun h3 => ?_))))))))))
 ·refine tE h3 H fun H=>zb hN Z (qe Z (zk ?_))
  cases H
  exact ⟨U,.inl Z,U⟩
 ·refine fE h3 H fun H=>zn (zd (zb hN Z (qd Z (za (qh kz Z) (qd Z (yc (gE H fun h6 H=>va (fun (k4:Nat) (s:Unit)=>[(0,.dat (vlst (List.map zy s1))),(1,.dat (vlst (List.map zy s2))),(12,.dat (vint (s1.length:Int))),(13,.dat (vint (k4:Int)))]) (fun (k4:Nat) (s:Unit)=>[]) () H ⟨Z,Z,Z,Z,U⟩ U (fun _ _=>Z) ?_ ?_)))))))
  ·rintro ⟨⟩ H
   replace H:y61=some r:=H
   unfold y61 at H
   refine zb hN Z (za (ye Z Z) (zd (zh _ Z (fun h=>(lt_t h).elim) (fun h => ?_))))
   refine yz (zb hN Z (qe Z (zk ?_)))
   cases H
   exact ⟨U,.inl Z,U⟩
  ·rintro k4 x7 ⟨⟩ q5 h8 h9 H hq5
   replace H:y60 s2 k4 x7=some q5:=H
   unfold y60 at H
   refine zb hN Z (za (ye Z Z) (zd (zh _ Z (fun h => ?_) (fun h=>(lt_f h8 h).elim))))
   refine zn (zd (yc (zb hN Z (qd Z (qe Z (zd (ww mixed hN Z Z (qd Z (qd Z (za (wj uy (fun _=>Z) Z Z h9) (za (xa vx Z (qp h9) Z) (qd Z (qd Z (bE H fun x10 h11 H=>za (wj uy (fun _=>Z) Z Z h11) (za (xa vx Z (qp h11) Z) (za (w2o [_,_] [_,_] w0j Z Z Z) ⟨Z,?_⟩))))))))))))))))
   refine zh _ Z (fun h12 => ?_) (fun h12 => ?_)
   ·refine tE h12 H fun H=>zb hN Z (qe Z (zk ?_))
    replace H:=retl H hq5
    cases H
    exact ⟨U,.inl Z,U⟩
   ·exact fE h12 H fun H=>zn (zj hN Z (za (qy Z Z (by omega)) (qd Z ⟨_,qm H,⟨Z,Z,Z,Z,U⟩,U⟩)))
end Go.Proofs.YtahcnngcpjkpgabGreatDoor
