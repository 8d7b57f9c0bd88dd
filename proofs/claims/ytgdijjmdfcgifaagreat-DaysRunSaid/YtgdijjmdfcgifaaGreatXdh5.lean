/- A day of calls: the tries that end at a moment are taken out. -/
import Derived.Test.YtgdijjmdfcgifaaGreatXde
namespace Go.Proofs.YtgdijjmdfcgifaaGreat
open Go.RowKit Go.ChangeMaps Go.MapKept
set_option linter.unusedVariables false
set_option maxRecDepth 100000
set_option maxHeartbeats 2000000
theorem y9a (v3:Int) (bn:Nat) (hn:Value) (now:List zt) (x:zt) (he:decide (x.end_=v3)=false):FnI Tryz.prog 67 (vagg (yv x)::[zx [[vint v3]] 0 0,vval (PB bn)]) [(61,oN bn hn),(62,oW hn now)] (fun _:Unit=>zu [zn false]) (fun y=>[(61,oN bn hn),(62,oW hn now)]):=by
 refine Wm (by kernel_rfl) Tryz.func67 Z Z Z Z fun X hN => ?_
 refine wj 2 61 bn (.ptr 61 0) rfl (fun g w M v hb h=>vx hb h) (zb hN rfl (zi (vt 63 rfl) rfl (qe rfl (zd (zb hN rfl (za (ze ky rfl) (zh (zj tyS3 rfl rfl) rfl (za (yt tyS3 rfl (by first | assumption | rfl) rfl) ?_))))))))
 refine za (yb (u':=zn false) (qz Z Z) (vh he)) (zk false Z (fun h=>(by cases h)) (fun h => ?_))
 refine zp (zb hN rfl (za (ze ky rfl) (zh (zj tyS3 rfl rfl) rfl (za (yt tyS3 rfl (by first | assumption | rfl) rfl) ?_))))
 exact za (yb (u':=zn false) (qz Z Z) (vh he)) (qe Z (zo ⟨U,(),[],[(4,.dat (zn false))],⟨Z,U⟩,Z,⟨Z,Z,U⟩,Z,Z,.inl ⟨[zn false],⟨Z,U⟩,Z⟩⟩))
theorem y89 (v3:Int) (bn:Nat) (hn:Value) (now:List zt) (x:zt) (he:decide (x.end_=v3)=true) (hlen:now.length≤1000000):FnI Tryz.prog 67 (vagg (yv x)::[zx [[vint v3]] 0 0,vval (PB bn)]) [(61,oN bn hn),(62,oW hn now)] (fun _:Value=>zu [zn true]) (fun y=>[(61,oN bn y),(62,oW y (now++[x]))]):=by
 refine Wm (by kernel_rfl) Tryz.func67 Z Z Z Z fun X hN => ?_
 refine wj 2 61 bn (.ptr 61 0) rfl (fun g w M v hb h=>vx hb h) (zb hN rfl (zi (vt 63 rfl) rfl (qe rfl (zd (zb hN rfl (za (ze ky rfl) (zh (zj tyS3 rfl rfl) rfl (za (yt tyS3 rfl (by first | assumption | rfl) rfl) ?_))))))))
 refine za (yb (u':=zn true) (qz Z Z) (vh he)) (zk true Z (fun h => ?_) (fun h=>(by cases h)))
 refine z0w 61 0 62 64 (now.length) yw Z Z Z Z (zm hN Z (zh (zj Ye Z Z) Z (zh (wm ja Z Z Z) Z (za (yb (u':=vlst (List.map yv [x])) (qr [yv x] z8e ⟨Z,.inr Z,Z,U⟩ Z Z) Z) (zi (jo z8e (fun _=>Z) Z Z Z ⟨by simp,by simp; omega⟩ Z) Z ?_)))))
 refine Zo (Zn Ye rfl rfl yw rfl) rfl rfl (zd (jj 61 0 64 65 rfl rfl rfl yw rfl fun hn2=>(zm hN rfl (za (ze ky rfl) (zh (zj tyS3 rfl rfl) rfl (za (yt tyS3 rfl (by first | assumption | rfl) rfl) ?_))))))
 exact za (yb (u':=zn true) (qz Z Z) (vh he)) (qe Z (zo ⟨U,hn2,[(62,65)],[(4,.dat (zn true))],⟨Z,U⟩,Z,⟨Z,Z,U⟩,Z,Z,.inl ⟨[zn true],⟨Z,U⟩,Z⟩⟩))
theorem y88 (v3:Int) (bn:Nat) (ht hn:Value) (ts now:List zt) (hl1:ts.length≤1000000) (hl2:now.length≤1000000) (r:Int×List zt) (H:forL (Zr v3 now) (z7k now) 0 ts ()=some r):FnI Tryz.prog 87 [vval ht,vfn 67 [zx [[vint v3]] 0 0,vval (PB bn)]] [(5,oW ht ts),(61,oN bn hn),(62,oW hn now)] (fun _:Value=>zu [vint r.1]) (fun y=>[(5,oW ht ts),(61,oN bn y),(62,oW y r.2)]):=by
 refine Wm (by kernel_rfl) Tryz.func87 Z Z Z Z fun X hN => ?_
 refine w1y 0 5 (ts.length) yw Z Z (zb hN Z (qe Z (zd (zb hN Z (za (zg (.row _ _) Z) (zh (Zm z08 Z Z) Z (qd Z (zw (wg (fun (k:Nat) (s:Unit)=>[(0,.row 5 ts.length),(1,.dat (vfn 67 [zx [[vint v3]] 0 0,vval (PB bn)])),(7,.dat (vint (ts.length:Int))),(8,.dat (vint (k:Int)))]) (fun (k:Nat) (s:Unit)=>[(5,oW ht ts),(61,oN bn hn),(62,oW hn now)]) () H ⟨Z,Z,Z,Z,U⟩ ⟨Z,Z,Z,U⟩ (fun _ _=>Z) ?_ ?_)))))))))
 ·rintro s hs
  cases (show some ((-1:Int),now)=some r from hs)
  refine zb hN Z (za (zq Z Z) (zd (zk _ Z (fun h=>(lt_t h).elim) (fun h => ?_))))
  exact qa (zb hN Z (qe Z (zo ⟨U,hn,[],[(4,.dat (vint (-1)))],⟨Z,U⟩,Z,⟨Z,Z,Z,U⟩,Z,Z,.inl ⟨[vint (-1)],⟨Z,U⟩,Z⟩⟩)))
 ·rintro k x s q hk0 hx hs hq
  replace hs:Zr v3 now k x s=some q:=hs
  unfold Zr at hs
  refine zb hN Z (za (zq Z Z) (zd (zk _ Z (fun h => ?_) (fun h=>(lt_f hk0 h).elim))))
  refine zp (zd (zw (zb hN Z (qd Z (qe Z (zd (ko (decide (x.end_=v3)) (fun he => ?_) (fun he => ?_))))))))
  ·replace hs:=ift he hs
   cases hs
   obtain rfl:=hq _ rfl
   refine jd (ι:=Value) (os1:=[_,_,_,_,_]) (os2:=[]) hN Z Z Z (qd Z (za (zg (.row _ _) Z) (qd Z (zh (z26 ur Z Z Z hx) Z (zh (Yk ja Z Z hx Z) Z ⟨_,_,uz [(0,.row 5 ts.length),(1,.dat (vfn 67 [zx [[vint v3]] 0 0,vval (PB bn)])),(7,.dat (vint (ts.length:Int))),(8,.dat (vint (k:Int))),(5,.dat (vint (k:Int))),(11,.dat (vfn 67 [zx [[vint v3]] 0 0,vval (PB bn)])),(15,.dat (vagg (yv x)))] [(5,oW ht ts)] (y89 v3 bn hn _ x he hl2) (z4u (cs:=[zx [[vint v3]] 0 0,vval (PB bn)]) (us:=[_]) (by kernel_rfl) Z Z) ⟨Z,Z,Z,Z,Z,Z,Z,U⟩ ⟨Z,Z,Z,U⟩ Z (fun _=>Z),fun y => ?_⟩)))))
   refine zk true Z (fun h => ?_) (fun h=>(by cases h))
   exact zb hN Z (qd Z (qe Z (zo ⟨U,y,[],[(4,.dat (vint (k:Int)))],⟨Z,U⟩,Z,⟨Z,Z,Z,U⟩,Z,Z,.inl ⟨[vint (k:Int)],⟨Z,U⟩,Z⟩⟩)))
  ·replace hs:=iff_ he hs
   refine jd (ι:=Unit) (os1:=[_,_,_,_,_]) (os2:=[]) hN Z Z Z (qd Z (za (zg (.row _ _) Z) (qd Z (zh (z26 ur Z Z Z hx) Z (zh (Yk ja Z Z hx Z) Z ⟨_,_,uz [(0,.row 5 ts.length),(1,.dat (vfn 67 [zx [[vint v3]] 0 0,vval (PB bn)])),(7,.dat (vint (ts.length:Int))),(8,.dat (vint (k:Int))),(5,.dat (vint (k:Int))),(11,.dat (vfn 67 [zx [[vint v3]] 0 0,vval (PB bn)])),(15,.dat (vagg (yv x)))] [(5,oW ht ts)] (y9a v3 bn hn _ x he) (z4u (cs:=[zx [[vint v3]] 0 0,vval (PB bn)]) (us:=[_]) (by kernel_rfl) Z Z) ⟨Z,Z,Z,Z,Z,Z,Z,U⟩ ⟨Z,Z,Z,U⟩ Z (fun _=>Z),fun y => ?_⟩)))))
   refine zk false Z (fun h=>(by cases h)) (fun h => ?_)
   refine zp (zm hN Z (za (yy Z Z (by omega)) (qd Z ?_)))
   cases hs
   exact ⟨_,Z,⟨Z,Z,Z,Z,U⟩,⟨Z,Z,Z,U⟩⟩
theorem x78 (v3:Int) (bn:Nat) (ht hn:Value) (ts now:List zt) (hl:ts.length+now.length≤1000000):FnI Tryz.prog 66 [vval ht,vfn 67 [zx [[vint v3]] 0 0,vval (PB bn)]] [(5,oW ht ts),(61,oN bn hn),(62,oW hn now)] (fun y:Value×Value=>zu [vhd y.1]) (fun y=>[(5,oW y.1 (ts.filter (neE v3))),(61,oN bn y.2),(62,oW y.2 (now++ts.filter (eqE v3)))]):=by
 refine Wm (by kernel_rfl) Tryz.func66 Z Z Z Z fun X hN => ?_
 refine zd ?_
 rcases y9z v3 ts 0 now with ⟨hr,hf1,hf2⟩ | ⟨j,x,hj,hx,hf1,hf2,hr⟩
 ·rw [hf1,hf2,List.append_nil]
  refine zm hN Z (qe Z (zd (jd (ι:=Value) (os1:=[_,_]) (os2:=[_]) hN Z Z Z (qd Z (qd Z ⟨_,_,uz [(0,.dat (vval ht)),(1,.dat (vfn 67 [zx [[vint v3]] 0 0,vval (PB bn)])),(8,.dat (vval ht)),(9,.dat (vfn 67 [zx [[vint v3]] 0 0,vval (PB bn)]))] [] (y88 v3 bn ht hn ts now (by omega) (by omega) _ hr) (kh (by kernel_rfl) Z) ⟨Z,Z,Z,Z,U⟩ ⟨Z,Z,Z,U⟩ Z (fun _=>Z),fun y => ?_⟩)))))
  refine qe Z (zd (zb hN Z (qd Z (za (yb (u':=zn true) (qz Z Z) (vh (decide_eq_true Z))) (zk true Z (fun h => ?_) (fun h=>(by cases h)))))))
  exact zb hN Z (qd Z (qe Z (x08 4 5 Z Z (zo ⟨U,(ht,y),[],[(4,.dat (vhd ht))],⟨Z,U⟩,Z,⟨Z,Z,Z,U⟩,Z,Z,.inl ⟨[vhd ht],⟨Z,U⟩,Z⟩⟩))))
 ·rw [Nat.zero_add] at hr
  have hjl:=(List.getElem?_eq_some_iff.1 hj).1
  refine zm hN Z (qe Z (zd (jd (ι:=Value) (os1:=[_,_]) (os2:=[_]) hN Z Z Z (qd Z (qd Z ⟨_,_,uz [(0,.dat (vval ht)),(1,.dat (vfn 67 [zx [[vint v3]] 0 0,vval (PB bn)])),(8,.dat (vval ht)),(9,.dat (vfn 67 [zx [[vint v3]] 0 0,vval (PB bn)]))] [] (y88 v3 bn ht hn ts now (by omega) (by omega) _ hr) (kh (by kernel_rfl) Z) ⟨Z,Z,Z,Z,U⟩ ⟨Z,Z,Z,U⟩ Z (fun _=>Z),fun y => ?_⟩)))))
  refine qe Z (zd (zb hN Z (qd Z (za (yb (u':=zn false) (qz Z Z) (vh (decide_eq_false (by omega)))) (zk false Z (fun h=>(by cases h)) (fun h => ?_))))))
  refine zp (zd (zb hN Z (qd Z (za (yy Z Z (by omega)) (qe Z (zw (w1w 0 5 15 ts.length yw Z Z Z (Wp (ι:=Nat×Nat×List zt×List zt×Value) (fun i=>[(0,.row 15 ts.length),(1,.dat (vfn 67 [zx [[vint v3]] 0 0,vval (PB bn)])),(5,.dat (vint (i.1:Int))),(6,.dat (vint (i.2.1:Int)))]) (fun i=>[(15,.row 122 5 (List.map yv i.2.2.1)),(61,oN bn i.2.2.2.2),(62,oW i.2.2.2.2 i.2.2.2.1)]) (fun i=>DelI v3 ts now i.1 i.2.1 i.2.2.1 i.2.2.2.1) (fun i=>ts.length - i.2.1) (j,j+1,ts,now++[x],y) (w1b hj hx hf1 hf2) ⟨Z,Z,Z,Z,U⟩ ⟨Z,Z,Z,U⟩ (fun _=>Z) ?_))))))))
  ·rintro ⟨i,j2,l,nw,hy⟩ hI
   replace hI:DelI v3 ts now i j2 l nw:=hI
   have hij:=hI.ij
   have hln:=hI.len
   refine zd (zb hN Z (qd Z (za (zg (.row _ _) Z) (zh (xt z08 Z hI.len.symm) Z (za (zq Z Z) (zk _ Z (fun h1 => ?_) (fun h1 => ?_)))))))
   ·skip
    have hj2:j2 < l.length:=by simpa using h1
    obtain ⟨x2,hx2⟩:∃ x2,l[j2]?=some x2:=⟨_,List.getElem?_eq_getElem hj2⟩
    refine zp (zd (zw (zb hN Z (za (zg (.row _ _) Z) (qd Z (zh (z5o ur Z hI.len.symm Z hx2) Z (zh (x3o ja Z hI.len.symm hx2 Z) Z (zi (qh 63 z07 Z) Z (zi (qf ja Z Z Z Z) Z (zd (ko (decide (x2.end_=v3)) (fun he => ?_) (fun he => ?_))))))))))))
    ·skip
     refine jd (ι:=Value) (os1:=[_,_]) (os2:=[_]) hN Z Z Z (qd Z (zh (wm ja Z Z Z) Z ⟨_,_,uz [(0,.row 15 ts.length),(1,.dat (vfn 67 [zx [[vint v3]] 0 0,vval (PB bn)])),(5,.dat (vint (i:Int))),(6,.dat (vint (j2:Int))),(7,.ptr 63 0),(26,.dat (vfn 67 [zx [[vint v3]] 0 0,vval (PB bn)])),(27,.dat (vagg (yv x2)))] [(15,.row 122 5 (List.map yv l)),(63,.box none 122 ((yv x2).map .dat))] (y89 v3 bn hy nw x2 he (by have h9:=hI.out; rw [h9,List.length_append]; have h8:=List.length_filter_le (eqE v3) (ts.take j2); rw [List.length_take] at h8; omega)) (z4u (cs:=[zx [[vint v3]] 0 0,vval (PB bn)]) (us:=[_]) (by kernel_rfl) Z Z) ⟨Z,Z,Z,Z,Z,Z,Z,U⟩ ⟨Z,Z,Z,Z,U⟩ Z (fun _=>Z),fun y => ?_⟩))
     refine za (qs Z) (zk false Z (fun h=>(by cases h)) (fun h => ?_))
     exact zp (zm hN Z (qd Z (za (yy Z Z (by omega)) (qe Z ⟨(i,j2+1,l,nw++[x2],y),hI.del hx2 he,(show ts.length - (j2+1) < ts.length - j2 by omega),⟨Z,Z,Z,Z,U⟩,⟨Z,Z,Z,U⟩⟩))))
    ·obtain ⟨x3,hx3⟩:∃ x3,l[i]?=some x3:=⟨_,List.getElem?_eq_getElem (by omega)⟩
     refine jd (ι:=Unit) (os1:=[_,_]) (os2:=[_]) hN Z Z Z (qd Z (zh (wm ja Z Z Z) Z ⟨_,_,uz [(0,.row 15 ts.length),(1,.dat (vfn 67 [zx [[vint v3]] 0 0,vval (PB bn)])),(5,.dat (vint (i:Int))),(6,.dat (vint (j2:Int))),(7,.ptr 63 0),(26,.dat (vfn 67 [zx [[vint v3]] 0 0,vval (PB bn)])),(27,.dat (vagg (yv x2)))] [(15,.row 122 5 (List.map yv l)),(63,.box none 122 ((yv x2).map .dat))] (y9a v3 bn hy nw x2 he) (z4u (cs:=[zx [[vint v3]] 0 0,vval (PB bn)]) (us:=[_]) (by kernel_rfl) Z Z) ⟨Z,Z,Z,Z,Z,Z,Z,U⟩ ⟨Z,Z,Z,Z,U⟩ Z (fun _=>Z),fun y => ?_⟩))
     refine za (qs Z) (zk true Z (fun h => ?_) (fun h=>(by cases h)))
     exact zb hN Z (za (zg (.row _ _) Z) (qd Z (zh (wm ja Z Z Z) Z (zh (z5o ur Z hI.len.symm Z hx3) Z (zi (x3m (C:=yv) (xs:=l) (y:=x2) ja Z Z hI.len.symm (show i < l.length by omega) Z Z) Z (zm hN Z (qd Z (za (yy Z Z (by omega)) (qe Z (zm hN Z (qd Z (za (yy Z Z (by omega)) (qe Z ⟨(i+1,j2+1,l.set i x2,nw,hy),hI.keep hx2 he,(show ts.length - (j2+1) < ts.length - j2 by omega),⟨Z,Z,Z,Z,U⟩,⟨Z,Z,Z,U⟩⟩)))))))))))))
   ·skip
    have hj2:¬ j2 < ts.length:=by rw [← hln]; simpa using h1
    obtain ⟨hK,hO⟩:=hI.fin hj2
    have h5:=hI.jn
    have h21:0≤(i:Int)∧(i:Int) < (l.length:Int):=by omega
    have h22:0≤(i:Int)∧(i:Int)≤((l.take (i:Int).toNat++List.replicate (l.length - (i:Int).toNat) (⟨0,0,0,0,0⟩:zt)).length:Int):=by rw [← x0u _ h21]; omega
    have hK2:(l.take (i:Int).toNat++List.replicate (l.length - (i:Int).toNat) (⟨0,0,0,0,0⟩:zt)).take (i:Int).toNat=ts.filter (neE v3):=by rw [← hK,Int.toNat_natCast,List.take_append_of_le_length (by simp; omega),List.take_take,Nat.min_self]
    rw [← hK2,← hO]
    refine qa (zb hN Z (za (zg (.row _ _) Z) (qd Z (zh (x3n (C:=yv) ur Z hI.len.symm Z h21) Z (zi (x3r (C:=yv) (⟨0,0,0,0,0⟩:zt) z08 z07 Z Z Z Z hI.len.symm h21) Z (zb hN Z (za (zg (.row _ _) Z) (qd Z (x5l (x3q (C:=yv) 16 ur Z (hI.len.symm.trans (x0u _ h21)) Z h22) Z Z (za (wo (.row _ _) Z) (w12 4 16 17 Z Z (by rw [List.length_map]; exact w1f h22) Z fun hv => ?_)))))))))))
    exact x08 4 17 Z Z (zo ⟨U,(hv,hy),[(5,17)],[(4,.dat (vhd hv))],⟨Z,U⟩,Z,⟨Z,Z,Z,U⟩,Z,Z,.inl ⟨[vhd hv],⟨Z,U⟩,Z⟩⟩)
end Go.Proofs.YtgdijjmdfcgifaaGreat
