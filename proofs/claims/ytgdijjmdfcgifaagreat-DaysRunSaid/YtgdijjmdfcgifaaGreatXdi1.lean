/- A day of calls, the document's way: who may be tried. -/
import Derived.Test.YtgdijjmdfcgifaaGreatXds
namespace Go.Proofs.YtgdijjmdfcgifaaGreat
open Go.RowKit Go.ChangeMaps Go.MapKept
set_option linter.unusedVariables false
set_option maxRecDepth 100000
set_option maxHeartbeats 2000000
theorem x7y (E:Ec) (fh:Nat→Value) (v:Ev) (call v3:Int) (o:yf) (hk:at? v.out call=some o) (r:List zl) (H:z3n E.s v.bench o.Tries v3=some r):FnI Tryz.prog 102 [vval (PB E.b1),vint call,vint v3] [(1,dO E v),(2,dR fh v),(3,dX v),(4,dY v),(5,dA v),(6,dB E v),(7,dM E.m7 v.bench.row_),(8,dM E.m8 v.bench.times_),(9,dM E.m9 v.bench.until_),(50,dT (fh call.toNat) o.Tries)] (fun _:Unit=>zu [vlst (List.map ya r)]) (fun _=>[(1,dO E v),(2,dR fh v),(3,dX v),(4,dY v),(5,dA v),(6,dB E v),(7,dM E.m7 v.bench.row_),(8,dM E.m8 v.bench.times_),(9,dM E.m9 v.bench.until_),(50,dT (fh call.toNat) o.Tries)]):=by
 refine Wm (by kernel_rfl) Tryz.func102 rfl rfl rfl rfl fun X hN => ?_
 unfold z3n at H
 obtain ⟨out,hout,H⟩:=bnd H
 obtain ⟨hl,H⟩:=gif H
 obtain ⟨hkA,hk1⟩:=yp hk
 have he0:=z9n (fh:=fh) hk1
 refine wj 0 1 E.b1 (.ptr 1 0) rfl (fun g w M v hb h=>vx hb h) ?_
 refine Zg 1 14 2 v.out.length wh.symm rfl rfl rfl ?_
 refine zd ?_
 refine zm hN rfl ?_
 refine qe rfl ?_
 refine zd ?_
 refine Wn 1 19 6 E.b6 (.ptr 6 0) rfl rfl rfl (fun g w M v hb h=>vx hb h) ?_
 refine vu 6 5 7 E.m7 (.mp 7) rfl rfl rfl (fun g w M v hb h=>z1l hb h) ?_
 refine vu 6 6 8 E.m8 (.mp 8) rfl rfl rfl (fun g w M v hb h=>z1l hb h) ?_
 refine vu 6 7 9 E.m9 (.mp 9) rfl rfl rfl (fun g w M v hb h=>z1l hb h) ?_
 refine zm hN rfl ?_
 refine za (zg (.ptr _ _) rfl) ?_
 refine za (zy rfl) ?_
 refine za (ze y6b rfl) ?_
 refine zh (zj y5t rfl rfl) rfl ?_
 refine qd rfl ?_
 refine y64 (rn [(0,6),(2,7),(3,8),(4,9)]) [(0,_,_,some _),(2,_,_,some _),(3,_,_,some _),(4,_,_,some _)] (y85 v.bench v3 out hout) ⟨rfl,rfl,rfl,rfl,trivial⟩ ⟨.inl (.inl rfl),.inl (.inl rfl),trivial⟩ ⟨⟨⟨rfl,rfl⟩,trivial⟩,⟨rfl,trivial⟩,⟨rfl,trivial⟩,⟨rfl,trivial⟩,trivial⟩ rfl rfl ?_
 refine qe rfl ?_
 refine zd ?_
 refine Wn 1 19 6 E.b6 (.dat (vval (PB E.b6))) rfl rfl rfl (fun g w M v hb h=>jc hb h) ?_
 refine vu 6 5 7 E.m7 (.dat (vval (.map (some E.m7)))) rfl rfl rfl (fun g w M v hb h=>ju hb h) ?_
 refine vu 6 6 8 E.m8 (.dat (vval (.map (some E.m8)))) rfl rfl rfl (fun g w M v hb h=>ju hb h) ?_
 refine vu 6 7 9 E.m9 (.dat (vval (.map (some E.m9)))) rfl rfl rfl (fun g w M v hb h=>ju hb h) ?_
 refine zm hN rfl ?_
 refine qe rfl ?_
 refine qe rfl ?_
 refine zd ?_
 refine zd ?_
 refine Qb 8 61 115 2 rfl rfl rfl ?_
 refine Qb 9 62 115 2 rfl rfl rfl ?_
 refine zm hN rfl ?_
 refine za (zg (.ptr _ _) rfl) ?_
 refine za (zy rfl) ?_
 refine za (ze Yi rfl) ?_
 refine za (ze kx rfl) ?_
 refine zh (zj kd rfl rfl) rfl ?_
 refine za (yx vw rfl) ?_
 refine qd rfl ?_
 refine zw ?_
 refine Zw 1 14 2 v.out.length wh.symm rfl rfl rfl ?_
 refine wg (fun (k:Nat) (q:List zl×List zl)=>[(0,.ptr 1 0),(1,.dat (vint call)),(7,.dat (vlst (List.map vd out))),(8,.row 61 q.1.length),(9,.row 62 q.2.length),(22,.dat (vlst (List.map ya E.s.Instances))),(23,.dat (vint (E.s.Instances.length:Int))),(24,.dat (vint (k:Int)))]) (fun (k:Nat) (q:List zl×List zl)=>[(61,.row 115 2 (List.map ya q.1)),(62,.row 115 2 (List.map ya q.2)),(1,dO E v),(2,dR fh v),(3,dX v),(4,dY v),(5,dA v),(6,dB E v),(7,dM E.m7 v.bench.row_),(8,dM E.m8 v.bench.times_),(9,dM E.m9 v.bench.until_),(50,dT (fh call.toNat) o.Tries)]) ([],[]) H ⟨rfl,rfl,rfl,rfl,rfl,rfl,rfl,rfl,trivial⟩ ⟨rfl,rfl,rfl,rfl,rfl,rfl,rfl,rfl,rfl,rfl,rfl,rfl,trivial⟩ (fun _ _=>rfl) ?_ ?_
 ·rintro q hs
  refine zd ?_
  refine zm hN rfl ?_
  refine za (zq rfl rfl) ?_
  refine zd ?_
  refine zk _ rfl (fun h=>(lt_t h).elim) (fun h => ?_)
  refine qa ?_
  refine zd ?_
  refine zd ?_
  replace hs:z71 q=some r:=hs
  unfold z71 at hs
  refine zm hN rfl ?_
  refine za (zg (.row _ _) rfl) ?_
  refine zh (xt vw rfl rfl) rfl ?_
  refine za (vn rfl rfl) ?_
  refine zk _ rfl (fun h1 => ?_) (fun h1 => ?_)
  ·skip
   replace hs:=ift h1 hs
   refine zd ?_
   refine z4w 8 61 rfl rfl yw ?_
   refine zm hN rfl ?_
   refine qd rfl ?_
   refine qe rfl ?_
   refine zo ?_
   cases hs
   exact ⟨trivial,(),[],[(6,.dat (vlst (List.map ya q.1)))],⟨rfl,trivial⟩,rfl,⟨rfl,rfl,rfl,rfl,rfl,rfl,rfl,rfl,rfl,rfl,trivial⟩,rfl,rfl,.inl ⟨[vlst (List.map ya q.1)],⟨rfl,trivial⟩,rfl⟩⟩
  ·skip
   replace hs:=iff_ h1 hs
   refine zp ?_
   refine zd ?_
   refine z4w 9 62 rfl rfl yw ?_
   refine zm hN rfl ?_
   refine qd rfl ?_
   refine qe rfl ?_
   refine zo ?_
   cases hs
   exact ⟨trivial,(),[],[(6,.dat (vlst (List.map ya q.2)))],⟨rfl,trivial⟩,rfl,⟨rfl,rfl,rfl,rfl,rfl,rfl,rfl,rfl,rfl,rfl,trivial⟩,rfl,rfl,.inl ⟨[vlst (List.map ya q.2)],⟨rfl,trivial⟩,rfl⟩⟩
 ·rintro k x q q1 hk0 hx hs hq
  replace hs:z70 out o.Tries k x q=some q1:=hs
  unfold z70 at hs
  refine zd ?_
  refine zm hN rfl ?_
  refine za (zq rfl rfl) ?_
  refine zd ?_
  refine zk _ rfl (fun h => ?_) (fun h=>(lt_f hk0 h).elim)
  refine zp ?_
  refine zd ?_
  refine zw ?_
  refine zd ?_
  refine zm hN rfl ?_
  refine za (wb jq (fun _=>rfl) rfl rfl hx) ?_
  refine za (wv vm rfl (yz hx) rfl) ?_
  refine zi (qh 63 um rfl) rfl ?_
  refine zi (qf vm rfl rfl rfl rfl) rfl ?_
  refine zd ?_
  refine zd ?_
  obtain ⟨b,hb,hs⟩:=bnd hs
  refine zm hN rfl ?_
  refine qd rfl ?_
  refine za (ze jg rfl) ?_
  refine zh (zj tyS9 rfl rfl) rfl ?_
  refine za (ye (x85 out x.Key b hb) ⟨.inl rfl,.inl rfl,trivial⟩) ?_
  refine zk _ rfl (fun h2 => ?_) (fun h2 => ?_)
  ·skip
   replace hs:=ift h2 hs
   cases hs
   refine qa ?_
   refine zm hN rfl ?_
   refine za (yy rfl rfl (by omega)) ?_
   refine qd rfl ?_
   exact ⟨_,rfl,⟨rfl,rfl,rfl,rfl,rfl,rfl,rfl,rfl,trivial⟩,⟨rfl,rfl,rfl,rfl,rfl,rfl,rfl,rfl,rfl,rfl,rfl,rfl,trivial⟩⟩
  ·skip
   replace hs:=iff_ h2 hs
   refine zp ?_
   refine zd ?_
   obtain ⟨⟨hq1,hq2⟩,hs⟩:=gif hs
   obtain ⟨b2,hb2,hs⟩:=bnd hs
   refine zm hN rfl ?_
   refine za (zg (.row _ _) rfl) ?_
   refine zh (wm vm rfl rfl rfl) rfl ?_
   refine za (yb (u':=vlst (List.map ya [x])) (qr [ya x] Qk ⟨rfl,.inr rfl,rfl,trivial⟩ rfl rfl) rfl) ?_
   refine zi (jo (C:=ya) Qk (fun _=>rfl) rfl rfl rfl ⟨by simp,by simp; omega⟩ rfl) rfl ?_
   refine za (wo (.row _ _) rfl) ?_
   refine zd ?_
   refine xm 63 (ya x) rfl rfl ?_
   refine Zg 1 14 2 v.out.length wh.symm rfl rfl rfl ?_
   refine zm hN rfl ?_
   refine za (zg (.ptr _ _) rfl) ?_
   refine za (zy rfl) ?_
   refine za (ze z22 rfl) ?_
   refine zh (zj z2x rfl rfl) rfl ?_
   refine qd rfl ?_
   refine zh (z3a z1h rfl rfl wh.symm (by rw [wh]; exact hkA)) rfl ?_
   refine za (ql kw rfl) ?_
   refine zh (Qs ku rfl wh.symm he0 rfl) rfl ?_
   refine za (Yn (us:=[_]) ⟨rfl,trivial⟩) ?_
   refine z3c (rd:=[(50,dT (fh call.toNat) o.Tries)]) (z29 [(50,dT (fh call.toNat) o.Tries)] (x86 o.Tries (z7z x) 117 [zx [ya x] 0 0] (fun t r h=>x9c t x r h) b2 hb2) (fun _ _ _ _ h=>h) (fun X own g a w hx hr hm he=>by rw [Array.toList_map]; exact xz (by rw [show a.eval (.tmp 43)=fh call.toNat from (hx (.tmp 43) (by simp)).1]; exact z5y he (hr (50,dT (fh call.toNat) o.Tries) (.head _)) fun b hb=>hm (50,dT (fh call.toNat) o.Tries) b (.head _) hb) (xz (V.keep (vfn _ _) he (hx (.tmp 44) (by simp))) z25))) ⟨rfl,trivial⟩ ?_
   refine za (qs rfl) ?_
   refine zk _ rfl (fun h3 => ?_) (fun h3 => ?_)
   ·skip
    replace hs:=ift h3 hs
    cases hs
    refine Zw 1 14 2 v.out.length wh.symm rfl rfl rfl ?_
    refine zm hN rfl ?_
    refine za (zg (.row _ _) rfl) ?_
    refine za (wv vm rfl rfl rfl) ?_
    refine za (yb (u':=vlst (List.map ya [x])) (qr [ya x] Qk ⟨rfl,.inr rfl,rfl,trivial⟩ rfl rfl) rfl) ?_
    refine zi (jo (C:=ya) Qk (fun _=>rfl) rfl rfl rfl ⟨by simp,by simp; omega⟩ rfl) rfl ?_
    refine za (wo (.row _ _) rfl) ?_
    refine zm hN rfl ?_
    refine za (yy rfl rfl (by omega)) ?_
    refine qd rfl ?_
    exact ⟨_,rfl,⟨rfl,rfl,rfl,rfl,rfl,rfl,rfl,rfl,trivial⟩,⟨rfl,rfl,rfl,rfl,rfl,rfl,rfl,rfl,rfl,rfl,rfl,rfl,trivial⟩⟩
   ·skip
    replace hs:=iff_ h3 hs
    cases hs
    refine Zw 1 14 2 v.out.length wh.symm rfl rfl rfl ?_
    refine zp ?_
    refine zm hN rfl ?_
    refine za (yy rfl rfl (by omega)) ?_
    refine qd rfl ?_
    exact ⟨_,rfl,⟨rfl,rfl,rfl,rfl,rfl,rfl,rfl,rfl,trivial⟩,⟨rfl,rfl,rfl,rfl,rfl,rfl,rfl,rfl,rfl,rfl,rfl,rfl,trivial⟩⟩
end Go.Proofs.YtgdijjmdfcgifaaGreat
