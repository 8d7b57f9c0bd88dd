/- A day of calls, the document's way: the day. -/
import Derived.Test.YtgdijjmdfcgifaaGreatXdq
namespace Go.Proofs.YtgdijjmdfcgifaaGreat
open Go.RowKit Go.ChangeMaps Go.MapKept
set_option linter.unusedVariables false
set_option maxRecDepth 100000
set_option maxHeartbeats 4000000
noncomputable def ud (s:qb) (ph:List zz) (starts:List Int) (g:StG):Option (StG ⊕ StG):=(Wb s ph starts g).bind fun r=>if r.2=true then some (.inl r.1) else some (.inr r.1)
noncomputable def z6p (s:qb) (ph:List zz) (cl:List yi):Option (List yf):=
 if cl.length≤1000000 then (y0a s.Instances s.Outliers).bind fun b=>(iter (ud s ph (cl.map (·.At))) (cl.map out0,cl.map (·.At),[],0,[],b)).bind fun g=>some g.1 else none
theorem x9h (s:qb) (ph:List zz) (cl:List yi) (r:List yf) (H:z6p s ph cl=some r):Fn Tryz.prog 13 [vagg (xo s),vlst (List.map qq ph),vlst (List.map wz cl)] (zu [vlst (List.map wx r)]):=by
 refine ⟨by kernel_rfl,yr (us:=[vlst (List.map wx r)]) Tryz.func13 Z Z Z Z fun X hN => ?_⟩
 unfold z6p at H
 refine gE H fun hcl H=>bE H fun b0 hb0 H=>bE H fun gz hgz H=>?_
 cases H
 refine zb hN Z (zi (vt 71 Z) Z (qe Z (zd (y4z (0:Nat) (os1:=[_,_,_,_,_,_,_]) (os2:=[_,_,_]) (m:=7) mixed hN Z Z Z Z Z Z (zh (wm uq Z Z Z) Z (qd Z (qd Z (za (ze kx Z) (zh (zj kd Z Z) Z (za (ze z5g Z) (zh (wm xb Z Z Z) Z ⟨_,_,_,x47 (id:=6) (y2k (σ:=rn [(5,6),(2,7),(3,8),(4,9)]) (L:=[]) (nw:=[(5,_),(2,_),(3,_),(4,_)]) (x7x s.Instances s.Outliers b0 hb0) ⟨.inl (.inl Z),.inl (.inl Z),U⟩ U Z),y1k (by exact ⟨Z,Z,Z,Z,U⟩),fun b k hk=>hk,fun b6 => ?_⟩)))))))))))
 refine za (yb (u':=vagg (dyU s ph (vlst (List.map wz cl)) vnil vnil vnil (vint 0) vnil (vval (PB b6)) vnil)) (vq [(0,xo s),(12,[vlst (List.map qq ph)]),(13,[vlst (List.map wz cl)]),(19,[vval (PB b6)])] x2g x2y Z ⟨Z,.inr Z,Z,Z,.inl ⟨_,Z,Z,Z⟩,Z,Z,.inl ⟨_,Z,Z,Z⟩,Z,Z,.inl ⟨_,Z,Z,Z⟩,Z,U⟩) Z) (zi (vt 1 Z) Z (za (wo (.ptr _ _) Z) ⟨Z,?_⟩))
 refine zd (zd (z7u 1 Z fun b1=>(y1g 7 Z fun m7=>(y1g 8 Z fun m8=>(y1g 9 Z fun m9=>(vu 6 5 7 m7 (.dat (vval (.map (some m7)))) Z Z Z (fun g w M v hb h=>ju hb h) (vu 6 6 8 m8 (.dat (vval (.map (some m8)))) Z Z Z (fun g w M v hb h=>ju hb h) (vu 6 7 9 m9 (.dat (vval (.map (some m9)))) Z Z Z (fun g w M v hb h=>ju hb h) (Zx 1 16 34 139 6 Z Z Z Z (jj 1 16 34 4 Z Z Z Z Z fun hy=>(Zx 1 18 35 3 1 Z Z Z Z (jj 1 18 35 5 Z Z Z Z Z fun ha=>(Zx 1 14 30 84 4 Z Z Z Z (Zx 1 15 31 3 1 Z Z Z Z (Zx 1 20 32 3 1 Z Z Z Z (zm hN Z (qd Z (za (yx Qh Z) (qd Z (zw (Wp (ι:=Nat) (fun k=>[(7,.ptr 1 0),(20,.dat (vlst (List.map wz cl))),(21,.dat (vint (cl.length:Int))),(22,.dat (vint (k:Int)))]) (fun k=>[(1,.box (some b1) 104 [.dat (vlst (List.map ya s.Instances)),.dat (vint s.Tries),.dat (vint s.Timeout),.dat (vint s.Wait),.dat (vint s.MostWait),.dat (vint s.Budget.Window),.dat (vint s.Budget.Least),.dat (vint s.Budget.Part),.dat (vint s.Outliers.Fails),.dat (vint s.Outliers.Base),.dat (vint s.Outliers.Most),.dat (vint s.Outliers.Share),.dat (vlst (List.map qq ph)),.dat (vlst (List.map wz cl)),.row 30 ((cl.take k).map fun c=>c).length,.row 31 ((cl.take k).map (·.At)).length,.dat (vval hy),.dat (vint 0),.dat (vval ha),.dat (vval (PB b6)),.row 32 ((cl.take k).map (·.At)).length]),(4,.rowA hy 139 6 []),(5,.rowA ha 3 1 []),(6,dB (⟨s,ph,cl,cl.map (·.At),b1,b6,m7,m8,m9⟩:Ec) (⟨[],[],[],0,[],b0,hy,hy,hy,ha⟩:Ev)),(7,dM m7 b0.row_),(8,dM m8 b0.times_),(9,dM m9 b0.until_),(30,.row 84 4 (List.map OC0 ((cl.take k).map fun c=>c))),(31,.row 3 1 (List.map yl ((cl.take k).map (·.At)))),(32,.row 3 1 (List.map yl ((cl.take k).map (·.At))))]) (fun k=>k≤cl.length) (fun k=>cl.length - k) 0 (Nat.zero_le _) ⟨Z,Z,Z,Z,U⟩ ⟨Z,Z,Z,Z,Z,Z,Z,Z,Z,Z,U⟩ (fun _=>Z) ?_)))))))))))))))))))))
 ·rintro k hI
  replace hI:k≤cl.length:=hI
  refine zb hN Z (za (zq Z Z) (zd (zk _ Z (fun h1 => ?_) (fun h1 => ?_))))
  ·skip
   have hk:k < cl.length:=by simpa using h1
   obtain ⟨x,hx⟩:∃ x,cl[k]?=some x:=⟨_,List.getElem?_eq_getElem hk⟩
   refine zp (zd (zw (zb hN Z (za (wb Qq (fun _=>Z) Z Z hx) (za (wv Qi Z (yz hx) Z) (zi (qh 80 z46 Z) Z (zi (qf Qi Z Z Z Z) Z (zd (yo mixed hN Z Z (za (zg (.ptr _ _) Z) (za (zg (.ptr _ _) Z) (za (zy Z) (za (ze z22 Z) (zh (zj z2x Z Z) Z (za (ze Yg Z) (zh (zj tyS9 Z Z) Z (za (yb (u':=vagg (OC0 x)) (vq [(0,[vstr x.Id])] z2u y5w Z ⟨Z,.inl ⟨_,Z,Z,Z⟩,Z,U⟩) Z) (za (yb (u':=vlst (List.map OC0 [x])) (qr [OC0 x] z8f ⟨Z,.inr Z,Z,U⟩ Z Z) Z) (zi (jo (C:=OC0) z8f (fun _=>Z) Z Z Z ⟨by simp,by simp; omega⟩ Z) Z ?_)))))))))))))))))))
   refine za (zy Z) (za (ze z22 Z) (Zo (Zn z2x Z Z yw Z) Z Z ⟨Z,?_⟩))
   refine zd (yo mixed hN Z Z (za (zg (.ptr _ _) Z) (za (zg (.ptr _ _) Z) (za (zy Z) (za (ze z0a Z) (zh (zj vp Z Z) Z (za (ze Zk Z) (zh (zj tyS3 Z Z) Z (za (yb (u':=vlst (List.map yl [x.At])) (qr [[_]] vg ⟨Z,.inl ⟨_,Z,Z,Z⟩,Z,U⟩ Z Z) Z) (zi (jo vg (fun _=>Z) Z Z Z ⟨by simp,by simp; omega⟩ Z) Z ?_))))))))))
   refine za (zy Z) (za (ze z0a Z) (Zo (Zn vp Z Z yw Z) Z Z ⟨Z,?_⟩))
   refine yo mixed hN Z Z (za (zg (.ptr _ _) Z) (za (zg (.ptr _ _) Z) (za (zy Z) (za (ze z8q Z) (zh (zj vp Z Z) Z (za (ze Zk Z) (zh (zj tyS3 Z Z) Z (za (yb (u':=vlst (List.map yl [x.At])) (qr [[_]] vg ⟨Z,.inl ⟨_,Z,Z,Z⟩,Z,U⟩ Z Z) Z) (zi (jo vg (fun _=>Z) Z Z Z ⟨by simp,by simp; omega⟩ Z) Z ?_)))))))))
   refine za (zy Z) (za (ze z8q Z) (Zo (Zn vp Z Z yw Z) Z Z ⟨Z,?_⟩))
   refine zm hN Z (za (yy Z Z (by omega)) (qd Z ?_))
   have ea:=z8s (fun c:yi=>c.At) hx
   have ec:=z8s (fun c:yi=>c) hx
   exact ⟨k+1,hk,(show cl.length - (k+1) < cl.length - k by omega),⟨Z,Z,Z,Z,U⟩,(by rw [ea,ec]; exact ⟨Z,Z,Z,Z,Z,Z,Z,Z,Z,Z,U⟩)⟩
  ·skip
   have hk9:¬ k < cl.length:=by simpa using h1
   obtain rfl:k=cl.length:=by omega
   rw [List.take_length]
   refine qa (zd (zw (jj 1 14 30 2 Z Z Z yw Z fun ho=>(jj 1 15 31 3 Z Z Z yw Z fun hx=>(y4y 1 20 32 Z Z Z yw (wj 7 1 b1 (.dat (vval (PB b1))) Z (fun g w M v hb h=>jc hb h) (w1v 2 (outE (fun _=>nilS) (cl.map out0)) Z (by rw [wh,List.length_map,List.length_map,List.length_map]) (fun k el hk=>by rw [List.map_id']; exact x6t cl k el hk) ?_)))))))
   refine w16 (cl.map out0) (fun c hc=>by obtain ⟨d,_,rfl⟩:=List.mem_map.1 hc; rfl) [(7,.dat (vval (PB b1)))] (dayO (⟨s,ph,cl,cl.map (·.At),b1,b6,m7,m8,m9⟩:Ec) (fun _=>nilS) (evG ((cl.map out0,cl.map (·.At),[],0,[],b0):StG) ho hx hy ha)) rfl rfl ⟨rfl,trivial⟩ (by exact ⟨rfl,rfl,rfl,rfl,rfl,rfl,rfl,rfl,rfl,trivial⟩) ?_
   refine y4x (fun (g:StG) (y:(Nat→Value)×Value×Value)=>[(7,.dat (vval (PB b1)))]) (fun (g:StG) (y:(Nat→Value)×Value×Value)=>dayO (⟨s,ph,cl,cl.map (·.At),b1,b6,m7,m8,m9⟩:Ec) y.1 (evG g ho hx y.2.1 y.2.2)++famT y.1 g.1) _ ((fun _=>nilS),hy,ha) hgz ⟨Z,U⟩ (vr.2 ⟨by exact ⟨Z,Z,Z,Z,Z,Z,Z,Z,Z,U⟩,(wc (lits:=([]:List (Nat×AObj))) Z wa (fun _=>Z))⟩) (fun _ _=>z0j Z wa) ?_
   ·rintro g y q0 hs1 hq
    replace hs1:ud s ph (cl.map (·.At)) g=some q0:=hs1
    unfold ud at hs1
    obtain ⟨r,hr,hs1⟩:=bnd hs1
    refine zd (zd (jd (ι:=(Nat→Value)×Value×Value) (os1:=[_]) (os2:=[]) hN Z Z Z (qd Z ⟨_,_,z2h [(7,.dat (vval (PB b1))),(61,.dat (vval (PB b1)))] [] (x7z (⟨s,ph,cl,cl.map (·.At),b1,b6,m7,m8,m9⟩:Ec) y.1 g ho hx y.2.1 y.2.2 r (by exact hr)) (kh (by kernel_rfl) Z) wa (fun _=>wa) ⟨Z,Z,U⟩ ⟨Z,Z,Z,Z,Z,Z,Z,Z,Z,U⟩ (wc (lits:=([]:List (Nat×AObj))) Z wa (fun _=>Z)) Z (fun _=>Z),fun z => ?_⟩)))
    refine zk _ Z (fun h2 => ?_) (fun h2 => ?_)
    ·skip
     replace hs1:=ift h2 hs1
     cases hs1
     exact zp (zw (zp ⟨_,z,Z,⟨Z,U⟩,vr.2 ⟨by exact ⟨Z,Z,Z,Z,Z,Z,Z,Z,Z,U⟩,(wc (lits:=([]:List (Nat×AObj))) Z wa (fun _=>Z))⟩⟩))
    ·skip
     replace hs1:=iff_ h2 hs1
     cases hs1
     obtain rfl:=hq _ rfl
     refine qa (zd (wj 7 1 b1 (.ptr 1 0) Z (fun g w M v hb h=>vx hb h) (zm hN Z (za (zg (.ptr _ _) Z) (za (zy Z) (za (ze z22 Z) (zh (zj z2x Z Z) Z (qe Z (w14 6 (vlst (List.map wx r.1.1)) ((2,dR z.1 (evG r.1 ho hx z.2.1 z.2.2))::famT z.1 r.1.1) (fun p hp => ?_) (fun g w M M' v he hR hv => ?_) ?_)))))))))
     ·rcases List.mem_cons.1 hp with rfl | hp
      ·rfl
      ·exact (wc (lits:=(dayO (⟨s,ph,cl,cl.map (·.At),b1,b6,m7,m8,m9⟩:Ec) z.1 (evG r.1 ho hx z.2.1 z.2.2)++[])) Z wa (fun _=>Z)) p hp
     ·obtain rfl:v=ho:=hv
      exact x6l he (hR _ (.head _)).1 (hR _ (.head _)).2 fun p hp=>hR p (.tail _ hp)
     exact zo ⟨U,.inl Z,U⟩
end Go.Proofs.YtgdijjmdfcgifaaGreat
