/- A day of calls: what ends at a moment, what starts at a moment. -/
import Derived.Test.YtgdijjmdfcgifaaGreatXdg
namespace Go.Proofs.YtgdijjmdfcgifaaGreat
open Go.RowKit Go.ChangeMaps Go.MapKept
set_option linter.unusedVariables false
set_option maxRecDepth 100000
set_option maxHeartbeats 2000000
theorem x71 (D:Dc) (v:Dv) (fb fm:Nat→Nat) (fh:Nat→Value) (cs:List yj) (hbs:∀ k,k < D.bs.length→D.bs[k]?=some (fb k)) (v3:Int) (r:StE) (H:z7a D.s D.ats D.bs.length (v.again,v.tries,v.sd,cs) v3=some r):FnI Tryz.prog 32 [vval (PB D.b1),vint v3] (fewO D v++famC fb fm fh cs) (fun _:(Value×Value×Value)×(Nat→Value)=>zu []) (fun y=>fewO D ⟨r.1,r.2.1,(v.tries.filter (neE v3)),y.1.1,y.1.2.1,y.1.2.2⟩++famC fb fm y.2 r.2.2):=by
 refine y4c (ι:=(Value×Value×Value)×(Nat→Value)) (l:=fun y=>fewO D ⟨r.1,r.2.1,(v.tries.filter (neE v3)),y.1.1,y.1.2.1,y.1.2.2⟩) (B:=fun y=>famC fb fm y.2 r.2.2) (by kernel_rfl) Tryz.func32 Z Z Z Z (fun _=>qw) fun X hN => ?_
 unfold z7a at H
 refine gE H fun hl H=>bE H fun now hnow H=>gE H fun hl2 H=>?_
 have hsl:=x5d hnow
 refine z4v [60,61,62,63] qw Z (wj 0 1 D.b1 (.ptr 1 0) Z (fun g w M v hb h=>vx hb h) (zb hN Z (zi (z0c 60 Z Z) Z (zb hN Z (zi (qh 61 x17 Z) Z (zd (xm 60 [vint v3] Z Z (z7u 61 Z fun bn=>(Zx 61 0 63 122 5 Z Z Z Z (jj 61 0 63 62 Z Z Z Z Z fun hn=>(wj 4 61 bn (.dat (vval (PB bn))) Z (fun g w M v hb h=>jc hb h) (jd (ι:=Value×Value) (os1:=[_,_,_,_,_,_]) (os2:=[_,_,_]) hN Z Z Z (za (zg (.ptr _ _) Z) (za (zg (.ptr _ _) Z) (za (zy Z) (za (ze z2z Z) (zh (zj Ye Z Z) Z (za (Yn (us:=[_,_]) ⟨Z,Z,U⟩) ⟨_,_,x03 [(0,.ptr 1 0),(4,.dat (vval (PB bn))),(7,.ptr 1 0),(11,.dat (vval v.ht)),(12,.dat (vfn 67 [zx [[vint v3]] 0 0,vval (PB bn)]))] [(1,oP D v),(2,oS D v),(3,oL v),(4,oA v)] (x78 v3 bn v.ht hn v.tries [] hl) (kh (by kernel_rfl) Z) qw ⟨Z,Z,Z,Z,Z,U⟩ ⟨Z,Z,Z,Z,Z,Z,Z,U⟩ (wc (lits:=fewO D v) Z qw (fun _=>Z)) Z (fun _=>Z),fun z => ?_⟩))))))))))))))))))
 refine za (zy Z) (za (ze z2z Z) (zi (vf Ye Z Z Z Z) Z (zd (x06 1 17 (.dat (vval z.1)) Z Z y90 (wj 4 61 bn (.ptr 61 0) Z (fun g w M v hb h=>vx hb h) (Zg 61 0 62 (v.tries.filter (eqE v3)).length yw Z Z Z (zm hN Z (zh (zj Ye Z Z) Z (Zp (rn [(0,62)]) [(0,_,_,some _)] [] (x7s (v.tries.filter (eqE v3)) Yr 69 [] (fun a b r h=>x8k a b r h) now hnow) ⟨Z,U⟩ ⟨.inl (.inl Z),.inr ⟨_,Z,Z⟩,U⟩ ⟨⟨⟨Z,Z,Z⟩,(by simp [z0d,hsl])⟩,U⟩ Z ?_)))))))))
 refine zd (wj 0 1 D.b1 (.dat (vval (PB D.b1))) Z (fun g w M v hb h=>jc hb h) (zm hN Z (zh (zj Ye Z Z) Z (zh (Zm z08 Z hsl) Z (qd Z (zw (w15 (fun (k:Nat) (s:StE) (y:(Value×Value)×(Nat→Value))=>[(0,.dat (vval (PB D.b1))),(18,.row 62 (v.tries.filter (eqE v3)).length),(19,.dat (vint (now.length:Int))),(20,.dat (vint (k:Int)))]) (fun (k:Nat) (s:StE) (y:(Value×Value)×(Nat→Value))=>(fewO D ⟨s.1,s.2.1,(v.tries.filter (neE v3)),y.1.1,y.1.2,z.1⟩++[(62,oW z.2 now)])++famC fb fm y.2 s.2.2) (v.again,v.sd,cs) ((v.ha,v.hs),fh) H ⟨Z,Z,Z,Z,U⟩ (vr.2 ⟨by exact ⟨Z,Z,Z,Z,Z,Z,U⟩,(wc (lits:=[(5,oW z.1 (v.tries.filter (neE v3))),(61,oN bn z.2),(62,oW z.2 ([]++(v.tries.filter (eqE v3)))),(1,oP D v),(2,oS D v),(3,oL v),(4,oA v)]) Z qw (fun _=>Z))⟩) (fun _ _ _=>z0j Z qw) ?_ ?_)))))))
 ·rintro s y hs
  cases (show some s=some r from hs)
  refine zb hN Z (za (zq Z Z) (zd (zk _ Z (fun h=>(lt_t h).elim) (fun h => ?_))))
  exact qa ⟨U,((y.1.1,y.1.2,z.1),y.2),[],[],U,Z,⟨Z,Z,Z,Z,Z,U⟩,(wc (lits:=(fewO D ⟨r.1,r.2.1,(v.tries.filter (neE v3)),y.1.1,y.1.2,z.1⟩++[(62,oW z.2 now)])) Z qw (fun _=>Z)),Z,.inl ⟨[],U,Z⟩⟩
 ·rintro k x s y q0 hk0 hx hs hq
  replace hs:z2g D.s D.ats D.bs.length k x s=some q0:=hs
  unfold z2g at hs
  obtain ⟨hnb,hs⟩:=gif hs
  obtain ⟨c,hc,hs⟩:=bnd hs
  obtain ⟨e,he,hs⟩:=bnd hs
  cases hs
  refine z4v [63] qw Z (zb hN Z (za (zq Z Z) (zd (zk _ Z (fun h => ?_) (fun h=>(lt_f hk0 h).elim)))))
  refine zp (zd (zw (zb hN Z (zh (z26 ur Z hsl Z hx) Z (zh (Yk ja Z hsl hx Z) Z (zi (qh 63 z07 Z) Z (zi (qf ja Z Z Z Z) Z (jd (ι:=Value×Value×Value) (os1:=[_,_]) (os2:=[]) hN Z Z Z (qd Z (zh (wm ja Z Z Z) Z ⟨_,_,z2h [(0,.dat (vval (PB D.b1))),(18,.row 62 (v.tries.filter (eqE v3)).length),(19,.dat (vint (now.length:Int))),(20,.dat (vint (k:Int))),(24,.dat (vval (PB D.b1))),(25,.dat (vagg (yv x)))] [(62,oW z.2 now),(63,.box none 122 ((yv x).map .dat))] (x72 (D:=D) (v:=⟨s.1,s.2.1,(v.tries.filter (neE v3)),y.1.1,y.1.2,z.1⟩) (fb:=fb) (fm:=fm) (fh:=y.2) (cs:=s.2.2) x (hbs _ hnb) hc e.1 e.2.1 e.2.2 he) (kh (by kernel_rfl) Z) qw (fun _=>qw) ⟨Z,Z,Z,Z,Z,Z,U⟩ ⟨Z,Z,Z,Z,Z,Z,Z,U⟩ (wc (lits:=(fewO D ⟨s.1,s.2.1,(v.tries.filter (neE v3)),y.1.1,y.1.2,z.1⟩++[(62,oW z.2 now)])) Z qw (fun _=>Z)) Z (fun _=>Z),fun q => ?_⟩))))))))))
  exact zm hN Z (za (yy Z Z (by omega)) (qd Z ⟨_,((q.2.1,q.1),fxV y.2 x.call_.toNat q.2.2),Z,⟨Z,Z,Z,Z,U⟩,vr.2 ⟨⟨Z,Z,Z,Z,Z,Z,U⟩,(wc (lits:=(fewO D ⟨e.1,e.2.1,(v.tries.filter (neE v3)),q.2.1,q.1,z.1⟩++[(62,oW z.2 now),(63,.box none 122 ((yv x).map .dat))])) Z qw (fun _=>Z))⟩⟩))
theorem x95 (v3:Int) (a:Option yj) (r:Bool) (h:y1a v3 a=some r):Fn Tryz.prog 73 ([vopt y1o a]++[zx [[vint v3]] 0 0]) (zu [zn r]):=by
 cases a with
 | none=>cases h
 | some c=>exact x8j c v3 r h
theorem x70 (D:Dc) (v:Dv) (fb fm:Nat→Nat) (fh:Nat→Value) (cs:List yj) (hbs:∀ k,k < D.bs.length→D.bs[k]?=some (fb k)) (v3:Int) (r:StA) (H:z9y D.s D.ph D.ats D.bs.length (v.again,v.tries,v.sd,cs) v3=some r):FnI Tryz.prog 33 [vval (PB D.b1),vint v3] (fewO D v++famC fb fm fh cs) (fun _:(Value×Value×Value)×(Nat→Value)=>zu []) (fun y=>fewO D ⟨r.1,r.2.2.1,r.2.1,y.1.1,y.1.2.1,y.1.2.2⟩++famC fb fm y.2 r.2.2.2):=by
 refine y4c (ι:=(Value×Value×Value)×(Nat→Value)) (l:=fun y=>fewO D ⟨r.1,r.2.2.1,r.2.1,y.1.1,y.1.2.1,y.1.2.2⟩) (B:=fun y=>famC fb fm y.2 r.2.2.2) (by kernel_rfl) Tryz.func33 Z Z Z Z (fun _=>qw) fun X hN => ?_
 unfold z9y at H
 refine z4v [60] qw Z (zb hN Z (zi (z0c 60 Z Z) Z (zw (xm 60 [vint v3] Z Z (y4x (fun (s:StA) (y:(Value×Value×Value)×(Nat→Value))=>[(0,.dat (vval (PB D.b1))),(3,.dat (zx [[vint v3]] 0 0))]) (fun (s:StA) (y:(Value×Value×Value)×(Nat→Value))=>fewO D ⟨s.1,s.2.2.1,s.2.1,y.1.1,y.1.2.1,y.1.2.2⟩++famC fb fm y.2 s.2.2.2) (v.again,v.tries,v.sd,cs) ((v.ha,v.hs,v.ht),fh) H ⟨Z,Z,U⟩ (vr.2 ⟨by exact ⟨Z,Z,Z,Z,Z,U⟩,(wc (lits:=fewO D v) Z qw (fun _=>Z))⟩) (fun _ _=>z0j Z qw) ?_)))))
 ·rintro s y q0 hs hq
  replace hs:z5r D.s D.ph D.ats D.bs.length v3 s=some q0:=hs
  unfold z5r at hs
  obtain ⟨hnb,hs⟩:=gif hs
  obtain ⟨k,hk,hs⟩:=bnd hs
  refine zw (zd (wj 0 1 D.b1 (.ptr 1 0) Z (fun g w M v hb h=>vx hb h) (zm hN Z (za (zg (.ptr _ _) Z) (za (zy Z) (za (ze z1d Z) (zh (zj z1a Z Z) Z (za (Yn (us:=[_]) ⟨Z,U⟩) (z3c (rd:=famC fb fm y.2 s.2.2.2) (z29 (famC fb fm y.2 s.2.2.2) (x8y (s.2.2.2.map some) (y1a v3) 73 [zx [[vint v3]] 0 0] (x95 v3) k hk) (fun _ _ _ _ h=>h) (fun X own g a w hx hr hm he=>by rw [Array.toList_map]; exact xz (by rw [List.map_map]; exact y0h he ⟨hnb.symm,fun j c hj=>hbs j (by rw [hnb]; exact (List.getElem?_eq_some_iff.1 hj).1)⟩ hr hm _ (hx (.tmp 8) (by simp))) (xz (V.keep (vfn _ _) he (hx (.tmp 9) (by simp))) z25))) (ua.2 (wc (lits:=fewO D ⟨s.1,s.2.2.1,s.2.1,y.1.1,y.1.2.1,y.1.2.2⟩) Z qw (fun _=>Z))) ?_)))))))))
  refine qe Z (zd (zb hN Z (qd Z (za (zq Z Z) (zk _ Z (fun h1 => ?_) (fun h1 => ?_))))))
  ·skip
   replace hs:=ift h1 hs
   cases hs
   obtain rfl:=hq _ rfl
   exact zo ⟨U,y,[],[],U,Z,⟨Z,Z,Z,Z,Z,U⟩,(wc (lits:=fewO D ⟨s.1,s.2.2.1,s.2.1,y.1.1,y.1.2.1,y.1.2.2⟩) Z qw (fun _=>Z)),Z,.inl ⟨[],U,Z⟩⟩
  ·skip
   replace hs:=iff_ h1 hs
   obtain ⟨c,hc,hs⟩:=bnd hs
   obtain ⟨e,he,hs⟩:=bnd hs
   cases hs
   refine zp (wj 0 1 D.b1 (.dat (vval (PB D.b1))) rfl (fun g w M v hb h=>jc hb h) (jd (ι:=Value×Value×Value×Value) (os1:=[_,_,_]) (os2:=[]) hN rfl rfl rfl (qd rfl (qd rfl (za (yt tyS3 rfl (by first | assumption | rfl) rfl) ?_)))))
   refine ⟨_,_,z2h [(0,.dat (vval (PB D.b1))),(3,.dat (zx [[vint v3]] 0 0)),(13,.dat (vval (PB D.b1))),(14,.dat (vint k)),(15,.dat (vint v3))] [] (x8a (D:=D) (v:=⟨s.1,s.2.2.1,s.2.1,y.1.1,y.1.2.1,y.1.2.2⟩) (fb:=fb) (fm:=fm) (fh:=y.2) (cs:=s.2.2.2) k v3 (hbs _ (by have:=(yp hc).1; omega)) hc e he) (kh (by kernel_rfl) Z) qw (fun _=>qw) ⟨Z,Z,Z,Z,Z,U⟩ ⟨Z,Z,Z,Z,Z,U⟩ (wc (lits:=fewO D ⟨s.1,s.2.2.1,s.2.1,y.1.1,y.1.2.1,y.1.2.2⟩) Z qw (fun _=>Z)) Z (fun _=>Z),fun z => ?_⟩
   exact ⟨_,((z.2.1,z.1,z.2.2.1),fxV y.2 k.toNat z.2.2.2),Z,⟨Z,Z,U⟩,vr.2 ⟨by exact ⟨Z,Z,Z,Z,Z,U⟩,(wc (lits:=(fewO D ⟨e.1,e.2.2.1,e.2.1,z.2.1,z.1,z.2.2.1⟩++[])) Z qw (fun _=>Z))⟩⟩
end Go.Proofs.YtgdijjmdfcgifaaGreat
