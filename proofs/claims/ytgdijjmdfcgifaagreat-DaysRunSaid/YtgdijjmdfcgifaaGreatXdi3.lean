/- A day of calls, the document's way: a try starts. -/
import Derived.Test.YtgdijjmdfcgifaaGreatXdi2
namespace Go.Proofs.YtgdijjmdfcgifaaGreat
open Go.RowKit Go.ChangeMaps Go.MapKept
set_option linter.unusedVariables false
set_option maxRecDepth 100000
set_option maxHeartbeats 4000000
theorem x74 (E:Ec) (fh:Nat→Value) (v:Ev) (call v3:Int) (o:yf) (hk:at? v.out call=some o) (hnx:call < (v.next.length:Int)) (r:StS) (H:Ys E.s E.ph v.bench o v.way v.sent call v3=some r):FnI Tryz.prog 81 [vval (PB E.b1),vint call,vint v3] (dayO E fh v++[(50,dT (fh call.toNat) o.Tries)]) (fun _:Value=>zu []) (fun y=>dayO E fh ⟨v.out.set call.toNat r.1,(v.next.set call.toNat (-1)),r.2.1,r.2.2,v.again,v.bench,v.ho,v.hx,y,v.ha⟩++[(50,dT (fh call.toNat) o.Tries)]):=by
 refine Wm (by kernel_rfl) Tryz.func81 rfl rfl rfl rfl fun X hN => ?_
 unfold Ys at H
 obtain ⟨l,hu,H⟩:=bnd H
 obtain ⟨hkA,hk1⟩:=yp hk
 have hkl:call.toNat < v.out.length:=(List.getElem?_eq_some_iff.1 hk1).1
 have he0:=z9n (fh:=fh) hk1
 refine wj 0 1 E.b1 (.ptr 1 0) rfl (fun g w M v hb h=>vx hb h) ?_
 refine Zg 1 15 3 v.next.length yw rfl rfl rfl ?_
 refine zd ?_
 refine zm hN rfl ?_
 refine za (zg (.ptr _ _) rfl) ?_
 refine za (zy rfl) ?_
 refine za (ze z0a rfl) ?_
 refine zh (zj vp rfl rfl) rfl ?_
 refine qd rfl ?_
 refine zh (z3a jr rfl rfl yw (by rw [List.length_map]; exact ⟨hkA.1,hnx⟩)) rfl ?_
 refine zi (y6d (C:=yl) (xs:=v.next) (y:=-1) tyS3 rfl rfl rfl rfl (by omega) (fun _=>rfl) rfl) rfl ?_
 refine zd ?_
 refine Zw 1 15 3 v.next.length (by rw [List.length_map,List.length_set]) rfl rfl rfl ?_
 refine wj 0 1 E.b1 (.dat (vval (PB E.b1))) rfl (fun g w M v hb h=>jc hb h) ?_
 refine jd (ι:=Unit) (os1:=[_,_,_]) (os2:=[_]) hN rfl rfl rfl ?_
 refine qd rfl ?_
 refine qd rfl ?_
 refine qd rfl ?_
 refine ⟨_,_,uz [(0,.dat (vval (PB E.b1))),(1,.dat (vint call)),(2,.dat (vint v3)),(24,.dat (vval (PB E.b1))),(25,.dat (vint call)),(26,.dat (vint v3))] [] (x7y E fh (⟨v.out,(v.next.set call.toNat (-1)),v.way,v.sent,v.again,v.bench,v.ho,v.hx,v.hy,v.ha⟩:Ev) call v3 o hk l hu) (kh (by kernel_rfl) rfl) ⟨rfl,rfl,rfl,rfl,rfl,rfl,trivial⟩ ⟨rfl,rfl,rfl,rfl,rfl,rfl,rfl,rfl,rfl,rfl,trivial⟩ rfl (fun _=>rfl),fun _ => ?_⟩
 refine qe rfl ?_
 refine zd ?_
 refine wj 0 1 E.b1 (.ptr 1 0) rfl (fun g w M v hb h=>vx hb h) ?_
 refine Zg 1 14 2 v.out.length wh.symm rfl rfl rfl ?_
 refine zm hN rfl ?_
 refine za (zg (.ptr _ _) rfl) ?_
 refine za (zy rfl) ?_
 refine za (ze z22 rfl) ?_
 refine zh (zj z2x rfl rfl) rfl ?_
 refine qd rfl ?_
 refine zh (z3a z1h rfl rfl wh.symm (by rw [wh]; exact hkA)) rfl ?_
 refine za (wo (.rptr _ _ _ _ _) rfl) ?_
 refine zd ?_
 refine zd ?_
 refine Zw 1 14 2 v.out.length wh.symm rfl rfl rfl ?_
 refine zm hN rfl ?_
 refine qd rfl ?_
 refine za (yx vw rfl) ?_
 refine za (qz rfl rfl) ?_
 refine zk _ rfl (fun h1 => ?_) (fun h1 => ?_)
 ·replace H:=ift h1 H
  obtain ⟨st,hst,H⟩:=bnd H
  cases H
  unfold y0k at hst
  refine zd ?_
  refine zm hN rfl ?_
  refine za (zg (.rptr _ _ _ _ _) rfl) ?_
  refine qd rfl ?_
  refine za (wu rfl) ?_
  refine za (ql z1c rfl) ?_
  refine zi (Ym tyS3 rfl rfl rfl wh.symm he0 rfl) rfl ?_
  refine zd ?_
  refine zd ?_
  have he1:((outE fh v.out).set call.toNat [vstr o.Call,vhd (fh call.toNat),vint v3,vint o.Status])[call.toNat]?=some [vstr o.Call,vhd (fh call.toNat),vint v3,vint o.Status]:=List.getElem?_set_self (by rw [wh]; exact hkl)
  refine zm hN rfl ?_
  refine za (zg (.rptr _ _ _ _ _) rfl) ?_
  refine za (wu rfl) ?_
  refine za (ql kw rfl) ?_
  refine z5x [(2,.rowA v.ho 84 4 ((outE fh v.out).set call.toNat [vstr o.Call,vhd (fh call.toNat),vint v3,vint o.Status])),(50,dT (fh call.toNat) o.Tries)] (z27 50 o.Tries.length yw (.tail _ (.head _)) (z0b rd1 (Qs ku rfl (by rw [List.length_set]; exact wh.symm) he1 rfl))) ⟨rfl,rfl,trivial⟩ ?_
  refine zh (Zm Zi rfl rfl) rfl ?_
  refine qe rfl ?_
  refine zd ?_
  refine zm hN rfl ?_
  refine qd rfl ?_
  refine za (vn rfl rfl) ?_
  refine zk _ rfl (fun h2 => ?_) (fun h2 => ?_)
  ·skip
   replace hst:=ift h2 hst
   obtain ⟨xl,hxl,hst⟩:=bnd hst
   cases hst
   refine zm hN rfl ?_
   refine za (zg (.rptr _ _ _ _ _) rfl) ?_
   refine za (zg (.rptr _ _ _ _ _) rfl) ?_
   refine za (wu rfl) ?_
   refine za (ql kw rfl) ?_
   refine z5x [(2,.rowA v.ho 84 4 ((outE fh v.out).set call.toNat [vstr o.Call,vhd (fh call.toNat),vint v3,vint o.Status])),(50,dT (fh call.toNat) o.Tries)] (z27 50 o.Tries.length yw (.tail _ (.head _)) (z0b rd1 (Qs ku rfl (by rw [List.length_set]; exact wh.symm) he1 rfl))) ⟨rfl,rfl,trivial⟩ ?_
   refine qd rfl ?_
   refine za (ym _ rfl rfl (.inr (.inl ⟨rfl,rfl⟩))) ?_
   refine zh (jx z5l rfl rfl rfl hxl) rfl ?_
   refine za (ql Zl rfl) ?_
   refine zh (xq tyS3 rfl rfl (yp hxl).2 rfl) rfl ?_
   refine za (wu rfl) ?_
   refine za (ql Ql rfl) ?_
   refine zi (Ym tyS3 rfl rfl rfl (by rw [List.length_set]; exact wh.symm) he1 rfl) rfl ?_
   refine zo ?_
   exact ⟨trivial,v.hy,[],[],trivial,rfl,⟨rfl,(congrArg (fun e=>some (some (AObj.rowA v.ho 84 4 e))) (Eq.trans x5h (y77 (fh:=fh) (k:=call.toNat) (o:=⟨o.Call,o.Tries,v3,xl.Status⟩) hkl).symm)),rfl,rfl,rfl,rfl,rfl,rfl,rfl,rfl,trivial⟩,rfl,rfl,.inl ⟨[],trivial,rfl⟩⟩
  ·skip
   replace hst:=iff_ h2 hst
   cases hst
   refine zp ?_
   refine zo ?_
   exact ⟨trivial,v.hy,[],[],trivial,rfl,⟨rfl,(congrArg (fun e=>some (some (AObj.rowA v.ho 84 4 e))) ((y77 (fh:=fh) (k:=call.toNat) (o:=⟨o.Call,o.Tries,v3,o.Status⟩) hkl).symm)),rfl,rfl,rfl,rfl,rfl,rfl,rfl,rfl,trivial⟩,rfl,rfl,.inl ⟨[],trivial,rfl⟩⟩
 ·replace H:=iff_ h1 H
  obtain ⟨⟨hl1,hl2,hl3⟩,H⟩:=gif H
  obtain ⟨ld,hld,H⟩:=bnd H
  obtain ⟨best,hbest,H⟩:=bnd H
  obtain ⟨tt,ht,H⟩:=bnd H
  cases H
  refine zp ?_
  refine zd ?_
  refine zm hN rfl ?_
  refine qe rfl ?_
  refine zd ?_
  refine zd ?_
  refine Qb 9 61 162 2 rfl rfl rfl ?_
  refine zm hN rfl ?_
  refine qd rfl ?_
  refine za (yx vw rfl) ?_
  refine qd rfl ?_
  refine zw ?_
  refine wg (fun (k:Nat) (q:List jl)=>[(0,.ptr 1 0),(1,.dat (vint call)),(2,.dat (vint v3)),(6,.dat (vlst (List.map ya l))),(9,.row 61 q.length),(60,.dat (vlst (List.map ya l))),(61,.dat (vint (l.length:Int))),(62,.dat (vint (k:Int)))]) (fun (k:Nat) (q:List jl)=>[(1,dO E (⟨v.out,(v.next.set call.toNat (-1)),v.way,v.sent,v.again,v.bench,v.ho,v.hx,v.hy,v.ha⟩:Ev)),(2,dR fh v),(3,dX (⟨v.out,(v.next.set call.toNat (-1)),v.way,v.sent,v.again,v.bench,v.ho,v.hx,v.hy,v.ha⟩:Ev)),(4,dY v),(5,dA v),(6,dB E v),(7,dM E.m7 v.bench.row_),(8,dM E.m8 v.bench.times_),(9,dM E.m9 v.bench.until_),(50,dT (fh call.toNat) o.Tries),(61,.row 162 2 (List.map Zy q))]) [] hld ⟨rfl,rfl,rfl,rfl,rfl,rfl,rfl,rfl,trivial⟩ ⟨rfl,rfl,rfl,rfl,rfl,rfl,rfl,rfl,rfl,rfl,rfl,trivial⟩ (fun _ _=>rfl) ?_ ?_
  ·rintro q hq
   obtain rfl:ld=q:=(Option.some.inj hq).symm
   refine zd ?_
   refine zm hN rfl ?_
   refine za (zq rfl rfl) ?_
   refine zd ?_
   refine zk _ rfl (fun h=>(lt_t h).elim) (fun h => ?_)
   refine qa ?_
   refine zd ?_
   refine z4w 9 61 rfl rfl yw ?_
   refine yo mixed hN rfl rfl ?_
   refine qd rfl ?_
   refine qd rfl ?_
   refine za (ye (x9m l ld best hbest) ⟨.inl rfl,.inl rfl,trivial⟩) ?_
   refine qd rfl ?_
   refine qd rfl ?_
   refine za (zg (.ptr _ _) rfl) ?_
   refine za (zy rfl) ?_
   refine za (ze Yi rfl) ?_
   refine za (ze z1g rfl) ?_
   refine zh (zj tyS3 rfl rfl) rfl ?_
   refine za (ym _ rfl rfl (.inl ⟨rfl,rfl⟩)) ?_
   refine za (yb (u':=vagg (jm ⟨best,v3,wr (v3+E.s.Timeout),0⟩)) (vq [(0,[vstr best]),(1,[vint v3]),(2,[vint (wr (v3+E.s.Timeout))])] y1y y5z rfl ⟨rfl,.inl ⟨_,rfl,rfl,rfl⟩,rfl,rfl,.inl ⟨_,rfl,rfl,rfl⟩,rfl,rfl,.inl ⟨_,rfl,rfl,rfl⟩,rfl,trivial⟩) rfl) ?_
   refine zi (qh 65 y1y rfl) rfl ?_
   refine zi (qf z2y rfl rfl rfl rfl) rfl ?_
   refine ⟨rfl,?_⟩
   refine zd ?_
   refine zd ?_
   refine zm hN rfl ?_
   refine za (zg (.ptr _ _) rfl) ?_
   refine za (zy rfl) ?_
   refine za (ze x3e rfl) ?_
   refine zh (zj y5r rfl rfl) rfl ?_
   refine za (yx Wt rfl) ?_
   refine qd rfl ?_
   refine zw ?_
   refine wg (fun (k:Nat) (t:Int×Int)=>[(0,.ptr 1 0),(1,.dat (vint call)),(2,.dat (vint v3)),(15,.ptr 65 0),(107,.dat (vlst (List.map qq E.ph))),(108,.dat (vint (E.ph.length:Int))),(109,.dat (vint (k:Int)))]) (fun (k:Nat) (t:Int×Int)=>[(1,dO E (⟨v.out,(v.next.set call.toNat (-1)),v.way,v.sent,v.again,v.bench,v.ho,v.hx,v.hy,v.ha⟩:Ev)),(2,dR fh v),(3,dX (⟨v.out,(v.next.set call.toNat (-1)),v.way,v.sent,v.again,v.bench,v.ho,v.hx,v.hy,v.ha⟩:Ev)),(4,dY v),(5,dA v),(6,dB E v),(7,dM E.m7 v.bench.row_),(8,dM E.m8 v.bench.times_),(9,dM E.m9 v.bench.until_),(50,dT (fh call.toNat) o.Tries),(65,.box none 108 [.dat (vstr best),.dat (vint v3),.dat (vint t.1),.dat (vint t.2)])]) (wr (v3+E.s.Timeout),0) ht ⟨rfl,rfl,rfl,rfl,rfl,rfl,rfl,trivial⟩ ⟨rfl,rfl,rfl,rfl,rfl,rfl,rfl,rfl,rfl,rfl,rfl,trivial⟩ (fun _ _=>rfl) ?_ ?_
   ·rintro t ht2
    obtain rfl:t=tt:=Option.some.inj ht2
    refine zd ?_
    refine zm hN rfl ?_
    refine za (zq rfl rfl) ?_
    refine zd ?_
    refine zk _ rfl (fun h=>(lt_t h).elim) (fun h => ?_)
    refine qa ?_
    refine zd ?_
    refine z0w 1 16 4 75 (v.way.length) yw rfl rfl rfl rfl ?_
    refine yo mixed hN rfl rfl ?_
    refine za (zg (.ptr _ _) rfl) ?_
    refine za (zg (.ptr _ _) rfl) ?_
    refine za (zy rfl) ?_
    refine za (ze xh rfl) ?_
    refine zh (zj xd rfl rfl) rfl ?_
    refine qd rfl ?_
    refine za (zg (.ptr _ _) rfl) ?_
    refine za (zy rfl) ?_
    refine za (ze y2a rfl) ?_
    refine zh (zj tyS3 rfl rfl) rfl ?_
    refine zh (wm z2y rfl rfl rfl) rfl ?_
    refine za (yb (u':=vagg (xn (⟨call,v.sent,⟨best,v3,t.1,t.2⟩⟩:qv))) (vq [(0,[vint call]),(1,[vint v.sent]),(2,jm ⟨best,v3,t.1,t.2⟩)] z49 x2v rfl ⟨rfl,.inl ⟨_,rfl,rfl,rfl⟩,rfl,rfl,.inl ⟨_,rfl,rfl,rfl⟩,rfl,rfl,.inr rfl,rfl,trivial⟩) rfl) ?_
    refine za (yb (u':=vlst (List.map xn [(⟨call,v.sent,⟨best,v3,t.1,t.2⟩⟩:qv)])) (qr [xn (⟨call,v.sent,⟨best,v3,t.1,t.2⟩⟩:qv)] y11 ⟨rfl,.inr rfl,rfl,trivial⟩ rfl rfl) rfl) ?_
    refine zi (jo (C:=xn) y11 (fun _=>rfl) rfl rfl rfl ⟨by simp,by simp; omega⟩ rfl) rfl ?_
    refine za (zy rfl) ?_
    refine za (ze xh rfl) ?_
    refine Zo (Zn xd rfl rfl yw rfl) rfl rfl ?_
    refine ⟨rfl,?_⟩
    refine jj 1 16 75 76 rfl rfl rfl yw rfl fun hy2 => ?_
    refine zm hN rfl ?_
    refine za (zg (.ptr _ _) rfl) ?_
    refine za (zy rfl) ?_
    refine za (ze y2a rfl) ?_
    refine zh (zj tyS3 rfl rfl) rfl ?_
    refine za (ym _ rfl rfl (.inl ⟨rfl,rfl⟩)) ?_
    refine za (zy rfl) ?_
    refine za (ze y2a rfl) ?_
    refine zi (vf tyS3 rfl rfl rfl rfl) rfl ?_
    exact ⟨trivial,hy2,[(4,76)],[],trivial,rfl,⟨rfl,(congrArg (fun e=>some (some (AObj.rowA v.ho 84 4 e))) (congrArg (outE fh) (y6z hk1).symm)),rfl,rfl,rfl,rfl,rfl,rfl,rfl,rfl,trivial⟩,rfl,rfl,.inl ⟨[],trivial,rfl⟩⟩
   ·rintro k x t q1 hk0 hx hq hqq
    replace hq:Qw E.s best v3 k x t=some q1:=hq
    unfold Qw at hq
    refine zd ?_
    refine zm hN rfl ?_
    refine za (zq rfl rfl) ?_
    refine zd ?_
    refine zk _ rfl (fun h => ?_) (fun h=>(lt_f hk0 h).elim)
    refine zp ?_
    refine zd ?_
    refine zw ?_
    refine zd ?_
    refine zm hN rfl ?_
    refine za (wb Qp (fun _=>rfl) rfl rfl hx) ?_
    refine za (wv kv rfl (yz hx) rfl) ?_
    refine zi (qh 66 Qg rfl) rfl ?_
    refine zi (qf kv rfl rfl rfl rfl) rfl ?_
    refine zd ?_
    refine yo mixed hN rfl rfl ?_
    refine za (ze xg rfl) ?_
    refine zh (zj tyS9 rfl rfl) rfl ?_
    refine za (ze z8p rfl) ?_
    refine zh (zj tyS9 rfl rfl) rfl ?_
    refine za (xu rfl rfl) ?_
    refine qd rfl ?_
    refine qt rfl rfl (fun hc=>ze kj rfl) ?_
    refine qt rfl rfl (fun hc=>ze Qm (cnd (c:=(decide (x.Instance=best))) hc)) ?_
    refine z0e rfl rfl (fun hc=>zj tyS3 (cnd (c:=(decide (x.Instance=best))) hc) rfl) rfl z0y ?_
    refine qt rfl rfl (fun hc=>zg (.dat _) rfl) ?_
    refine qt rfl rfl (fun hc=>xi (cnd (c:=(decide (x.Instance=best))) hc) (cnd (c:=(decide (x.Instance=best))) hc)) ?_
    refine za (uv rfl (fun hb=>(cnd (c:=(decide (x.Instance=best))) hb)) rfl) ?_
    refine qd rfl ?_
    refine qt rfl rfl (fun hc=>zg (.dat _) rfl) ?_
    refine qt rfl rfl (fun hc=>ze kj rfl) ?_
    refine qt rfl rfl (fun hc=>ze Ww (cnd (c:=((decide (x.Instance=best)) && decide (x.Time.From≤v3))) hc)) ?_
    refine z0e rfl rfl (fun hc=>zj tyS3 (cnd (c:=((decide (x.Instance=best)) && decide (x.Time.From≤v3))) hc) rfl) rfl z0y ?_
    refine qt rfl rfl (fun hc=>zq (cnd (c:=((decide (x.Instance=best)) && decide (x.Time.From≤v3))) hc) (cnd (c:=((decide (x.Instance=best)) && decide (x.Time.From≤v3))) hc)) ?_
    refine za (uv rfl (fun hb=>(cnd (c:=((decide (x.Instance=best)) && decide (x.Time.From≤v3))) hb)) rfl) ?_
    refine qd rfl ?_
    refine qt rfl rfl (fun hc=>ze z1e rfl) ?_
    refine z0e rfl rfl (fun hc=>zj tyS3 (cnd (c:=(((decide (x.Instance=best)) && decide (x.Time.From≤v3)) && decide (v3 < x.Time.To))) hc) rfl) rfl z0y ?_
    refine qt rfl rfl (fun hc=>zg (.ptr 1 0) rfl) ?_
    refine qt rfl rfl (fun hc=>zy (cnd (c:=(((decide (x.Instance=best)) && decide (x.Time.From≤v3)) && decide (v3 < x.Time.To))) hc)) ?_
    refine qt rfl rfl (fun hc=>ze Yi (cnd (c:=(((decide (x.Instance=best)) && decide (x.Time.From≤v3)) && decide (v3 < x.Time.To))) hc)) ?_
    refine qt rfl rfl (fun hc=>ze z1g (cnd (c:=(((decide (x.Instance=best)) && decide (x.Time.From≤v3)) && decide (v3 < x.Time.To))) hc)) ?_
    refine z0e rfl rfl (fun hc=>zj tyS3 (cnd (c:=(((decide (x.Instance=best)) && decide (x.Time.From≤v3)) && decide (v3 < x.Time.To))) hc) rfl) rfl z0y ?_
    refine qt rfl rfl (fun hc=>xi (cnd (c:=(((decide (x.Instance=best)) && decide (x.Time.From≤v3)) && decide (v3 < x.Time.To))) hc) (cnd (c:=(((decide (x.Instance=best)) && decide (x.Time.From≤v3)) && decide (v3 < x.Time.To))) hc)) ?_
    refine za (uv rfl (fun hb=>(cnd (c:=(((decide (x.Instance=best)) && decide (x.Time.From≤v3)) && decide (v3 < x.Time.To))) hb)) rfl) ?_
    refine ⟨rfl,?_⟩
    refine zk _ rfl (fun h3 => ?_) (fun h3 => ?_)
    ·skip
     replace hq:=ift h3 hq
     cases hq
     refine yo mixed hN rfl rfl ?_
     refine qd rfl ?_
     refine za (ze z1e rfl) ?_
     refine zh (zj tyS3 rfl rfl) rfl ?_
     refine za (ym _ rfl rfl (.inl ⟨rfl,rfl⟩)) ?_
     refine za (ze z5f rfl) ?_
     refine zh (zj tyS3 rfl rfl) rfl ?_
     refine za (ze xp rfl) ?_
     refine zi (vf tyS3 rfl rfl rfl rfl) rfl ?_
     refine za (ze Zl rfl) ?_
     refine zi (vf tyS3 rfl rfl rfl rfl) rfl ?_
     refine ⟨rfl,?_⟩
     refine zm hN rfl ?_
     refine za (yy rfl rfl (by omega)) ?_
     refine qd rfl ?_
     exact ⟨_,rfl,⟨rfl,rfl,rfl,rfl,rfl,rfl,rfl,trivial⟩,⟨rfl,rfl,rfl,rfl,rfl,rfl,rfl,rfl,rfl,rfl,rfl,trivial⟩⟩
    ·skip
     replace hq:=iff_ h3 hq
     cases hq
     refine zp ?_
     refine zm hN rfl ?_
     refine za (yy rfl rfl (by omega)) ?_
     refine qd rfl ?_
     exact ⟨_,rfl,⟨rfl,rfl,rfl,rfl,rfl,rfl,rfl,trivial⟩,⟨rfl,rfl,rfl,rfl,rfl,rfl,rfl,rfl,rfl,rfl,rfl,trivial⟩⟩
  ·rintro k x q q1 hk0 hx hq hqq
   replace hq:z7d v.way k x q=some q1:=hq
   unfold z7d at hq
   obtain ⟨⟨hw1,hw2⟩,hq⟩:=gif hq
   obtain ⟨n0,hn0,hq⟩:=bnd hq
   cases hq
   refine zd ?_
   refine zm hN rfl ?_
   refine za (zq rfl rfl) ?_
   refine zd ?_
   refine zk _ rfl (fun h => ?_) (fun h=>(lt_f hk0 h).elim)
   refine zp ?_
   refine zd ?_
   refine zw ?_
   refine zd ?_
   refine zm hN rfl ?_
   refine za (wb jq (fun _=>rfl) rfl rfl hx) ?_
   refine za (wv vm rfl (yz hx) rfl) ?_
   refine zi (qh 63 um rfl) rfl ?_
   refine zi (qf vm rfl rfl rfl rfl) rfl ?_
   refine zd ?_
   refine zm hN rfl ?_
   refine qe rfl ?_
   refine zd ?_
   refine zd ?_
   refine Zg 1 16 4 v.way.length yw rfl rfl rfl ?_
   refine zm hN rfl ?_
   refine za (zg (.ptr _ _) rfl) ?_
   refine za (zy rfl) ?_
   refine za (ze xh rfl) ?_
   refine zh (zj xd rfl rfl) rfl ?_
   refine zh (Zm z8a rfl rfl) rfl ?_
   refine qd rfl ?_
   refine zw ?_
   refine Zw 1 16 4 v.way.length yw rfl rfl rfl ?_
   refine wg (fun (j:Nat) (n:Int)=>[(0,.ptr 1 0),(1,.dat (vint call)),(2,.dat (vint v3)),(6,.dat (vlst (List.map ya l))),(9,.row 61 q.length),(60,.dat (vlst (List.map ya l))),(61,.dat (vint (l.length:Int))),(62,.dat (vint (k:Int))),(11,.ptr 63 0),(12,.dat (vint n)),(69,.row 4 v.way.length),(70,.dat (vint (v.way.length:Int))),(71,.dat (vint (j:Int)))]) (fun (j:Nat) (n:Int)=>[(1,dO E (⟨v.out,(v.next.set call.toNat (-1)),v.way,v.sent,v.again,v.bench,v.ho,v.hx,v.hy,v.ha⟩:Ev)),(2,dR fh v),(3,dX (⟨v.out,(v.next.set call.toNat (-1)),v.way,v.sent,v.again,v.bench,v.ho,v.hx,v.hy,v.ha⟩:Ev)),(4,dY v),(5,dA v),(6,dB E v),(7,dM E.m7 v.bench.row_),(8,dM E.m8 v.bench.times_),(9,dM E.m9 v.bench.until_),(50,dT (fh call.toNat) o.Tries),(61,.row 162 2 (List.map Zy q)),(63,.box none 115 ((ya x).map .dat))]) 0 hn0 ⟨rfl,rfl,rfl,rfl,rfl,rfl,rfl,rfl,rfl,rfl,rfl,rfl,rfl,trivial⟩ ⟨rfl,rfl,rfl,rfl,rfl,rfl,rfl,rfl,rfl,rfl,rfl,rfl,trivial⟩ (fun _ _=>rfl) ?_ ?_
   ·rintro n hn
    obtain rfl:n=n0:=Option.some.inj hn
    refine zd ?_
    refine zm hN rfl ?_
    refine za (zq rfl rfl) ?_
    refine zd ?_
    refine zk _ rfl (fun h=>(lt_t h).elim) (fun h => ?_)
    refine qa ?_
    refine zm hN rfl ?_
    refine za (zg (.row _ _) rfl) ?_
    refine za (ze jg rfl) ?_
    refine zh (zj tyS9 rfl rfl) rfl ?_
    refine qd rfl ?_
    refine za (yb (u':=vagg (Zy ⟨x.Key,n⟩)) (vq [(0,[vstr x.Key]),(1,[vint n])] y5l x2t rfl ⟨rfl,.inl ⟨_,rfl,rfl,rfl⟩,rfl,rfl,.inl ⟨_,rfl,rfl,rfl⟩,rfl,trivial⟩) rfl) ?_
    refine za (yb (u':=vlst (List.map Zy [⟨x.Key,n⟩])) (qr [Zy ⟨x.Key,n⟩] y53 ⟨rfl,.inr rfl,rfl,trivial⟩ rfl rfl) rfl) ?_
    refine zi (jo (C:=Zy) y53 (fun _=>rfl) rfl rfl rfl ⟨by simp,by simp; omega⟩ rfl) rfl ?_
    refine za (wo (.row _ _) rfl) ?_
    refine zm hN rfl ?_
    refine za (yy rfl rfl (by omega)) ?_
    refine qd rfl ?_
    exact ⟨_,rfl,⟨rfl,rfl,rfl,rfl,rfl,rfl,rfl,rfl,trivial⟩,⟨rfl,rfl,rfl,rfl,rfl,rfl,rfl,rfl,rfl,rfl,rfl,trivial⟩⟩
   ·rintro j u2 n q1 hj0 hu2 hq hqq
    replace hq:z57 x j u2 n=some q1:=hq
    unfold z57 at hq
    refine zd ?_
    refine zm hN rfl ?_
    refine za (zq rfl rfl) ?_
    refine zd ?_
    refine zk _ rfl (fun h => ?_) (fun h=>(lt_f hj0 h).elim)
    refine zp ?_
    refine zd ?_
    refine zw ?_
    refine zd ?_
    refine zm hN rfl ?_
    refine zh (z26 Yj rfl rfl rfl hu2) rfl ?_
    refine zh (Yk z1b rfl rfl hu2 rfl) rfl ?_
    refine zi (qh 64 z49 rfl) rfl ?_
    refine zi (qf z1b rfl rfl rfl rfl) rfl ?_
    refine zd ?_
    refine zm hN rfl ?_
    refine za (ze jf rfl) ?_
    refine za (ze z8p rfl) ?_
    refine zh (zj tyS9 rfl rfl) rfl ?_
    refine za (ze jg rfl) ?_
    refine zh (zj tyS9 rfl rfl) rfl ?_
    refine za (xu rfl rfl) ?_
    refine zk _ rfl (fun h4 => ?_) (fun h4 => ?_)
    ·skip
     replace hq:=ift h4 hq
     cases hq
     refine zm hN rfl ?_
     refine qd rfl ?_
     refine za (ym _ rfl rfl (.inl ⟨rfl,rfl⟩)) ?_
     refine qe rfl ?_
     refine zm hN rfl ?_
     refine za (yy rfl rfl (by omega)) ?_
     refine qd rfl ?_
     exact ⟨_,rfl,⟨rfl,rfl,rfl,rfl,rfl,rfl,rfl,rfl,rfl,rfl,rfl,rfl,rfl,trivial⟩,⟨rfl,rfl,rfl,rfl,rfl,rfl,rfl,rfl,rfl,rfl,rfl,rfl,trivial⟩⟩
    ·skip
     replace hq:=iff_ h4 hq
     cases hq
     refine zp ?_
     refine zm hN rfl ?_
     refine za (yy rfl rfl (by omega)) ?_
     refine qd rfl ?_
     exact ⟨_,rfl,⟨rfl,rfl,rfl,rfl,rfl,rfl,rfl,rfl,rfl,rfl,rfl,rfl,rfl,trivial⟩,⟨rfl,rfl,rfl,rfl,rfl,rfl,rfl,rfl,rfl,rfl,rfl,rfl,trivial⟩⟩
end Go.Proofs.YtgdijjmdfcgifaaGreat
