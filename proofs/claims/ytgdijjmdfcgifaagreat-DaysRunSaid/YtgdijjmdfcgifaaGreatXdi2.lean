/- A day of calls, the document's way: a try ends. -/
import Derived.Test.YtgdijjmdfcgifaaGreatXdi1
namespace Go.Proofs.YtgdijjmdfcgifaaGreat
open Go.RowKit Go.ChangeMaps Go.MapKept
set_option linter.unusedVariables false
set_option maxRecDepth 100000
set_option maxHeartbeats 2000000
theorem x1s {h:Value}:Wk (vhd h) (vval h):=fun _ _ _ q=>q.1
def z9r (l:List Int) (k:Nat):Option Int→List Int
 | none=>l
 | some x=>l.set k x
theorem x76 (E:Ec) (fh:Nat→Value) (v:Ev) (u:qv) (o:yf) (hk:at? v.out u.call_=some o) (hnx:u.call_ < (v.next.length:Int)) (r:StD) (H:z10 E.s E.starts v.bench o v.again u=some r):FnI Tryz.prog 80 [vval (PB E.b1),vagg (xn u)] (dayO E fh v++[(50,dT (fh u.call_.toNat) o.Tries)]) (fun _:Value×Value=>zu []) (fun y=>dayO E (fxV fh u.call_.toNat y.1) ⟨v.out.set u.call_.toNat r.2.1,z9r v.next u.call_.toNat r.2.2.2,v.way,v.sent,r.2.2.1,r.1,v.ho,v.hx,v.hy,y.2⟩++[(50,dT y.1 r.2.1.Tries)]):=by
 refine Wm (by kernel_rfl) Tryz.func80 rfl rfl rfl rfl fun X hN => ?_
 refine x07 ?_
 unfold z10 at H
 obtain ⟨hl,H⟩:=gif H
 obtain ⟨bench2,hb2,H⟩:=bnd H
 obtain ⟨bf,hb,H⟩:=bnd H
 obtain ⟨hk0,hk1⟩:=yp hk
 have hkl:u.call_.toNat < v.out.length:=(List.getElem?_eq_some_iff.1 hk1).1
 have he0:=z9n (fh:=fh) hk1
 have hbd:0≤u.call_∧u.call_ < ((outE fh v.out).length:Int):=by rw [wh]; exact hk0
 refine wj 0 1 E.b1 (.ptr 1 0) rfl (fun g w M v hb h=>vx hb h) ?_
 refine zd ?_
 refine zm hN rfl ?_
 refine zi (vt 61 rfl) rfl ?_
 refine zd ?_
 refine zm hN rfl ?_
 refine za (ze jf rfl) ?_
 refine za (ze xp rfl) ?_
 refine zh (zj tyS3 rfl rfl) rfl ?_
 refine qe rfl ?_
 refine zd ?_
 refine Zg 1 14 2 v.out.length wh.symm rfl rfl rfl ?_
 refine yo mixed hN rfl rfl ?_
 refine za (zg (.ptr _ _) rfl) ?_
 refine za (zy rfl) ?_
 refine za (ze z22 rfl) ?_
 refine zh (zj z2x rfl rfl) rfl ?_
 refine za (ze y58 rfl) ?_
 refine zh (zj tyS3 rfl rfl) rfl ?_
 refine zh (z3a z1h rfl rfl wh.symm hbd) rfl ?_
 refine za (wo (.rptr _ _ _ _ _) rfl) ?_
 refine ⟨rfl,?_⟩
 refine zd ?_
 refine Zw 1 14 2 v.out.length wh.symm rfl rfl rfl ?_
 refine w10 (ι:=Value) (os1:=[_,_,_,_,_,_,_,_,_,_,_]) (m:=11) mixed hN rfl rfl rfl rfl rfl rfl ?_
 refine za (zg (.rptr _ _ _ _ _) rfl) ?_
 refine za (zg (.rptr _ _ _ _ _) rfl) ?_
 refine za (wu rfl) ?_
 refine za (ql kw rfl) ?_
 refine zh (x3y (u':=vval (fh u.call_.toNat)) x1s (Qs ku rfl wh.symm he0 rfl)) rfl ?_
 refine za (ze jf rfl) ?_
 refine zh (wm z2y rfl rfl rfl) rfl ?_
 refine za (yb (u':=vlst (List.map jm [u.try_])) (qr [jm u.try_] z8d ⟨rfl,.inr rfl,rfl,trivial⟩ rfl rfl) rfl) ?_
 refine x5k (x3s 50 51 20 z8d (fun _=>rfl) rfl rfl (by simp) (by simp) ⟨by simp,by simp; omega⟩ rfl rfl) rfl rfl ?_
 refine za (wu rfl) ?_
 refine za (ql kw rfl) ?_
 refine ⟨rfl,_,_,x6n 24 51 52 rfl rfl yw rfl (fun h2=>Ym ku rfl rfl rfl wh.symm he0 rfl) (fun h2 q hq=>by rw [List.mem_singleton.1 hq]; rfl),fun h2 => ?_⟩
 refine zd ?_
 have he1:((outE fh v.out).set u.call_.toNat [vstr o.Call,vhd h2,vint o.Done,vint o.Status])[u.call_.toNat]?=some [vstr o.Call,vhd h2,vint o.Done,vint o.Status]:=List.getElem?_set_self (by rw [wh]; exact hkl)
 refine Wn 1 19 6 E.b6 (.ptr 6 0) rfl rfl rfl (fun g w M v hb h=>vx hb h) ?_
 refine vu 6 5 7 E.m7 (.mp 7) rfl rfl rfl (fun g w M v hb h=>z1l hb h) ?_
 refine vu 6 6 8 E.m8 (.mp 8) rfl rfl rfl (fun g w M v hb h=>z1l hb h) ?_
 refine vu 6 7 9 E.m9 (.mp 9) rfl rfl rfl (fun g w M v hb h=>z1l hb h) ?_
 refine yo mixed hN rfl rfl ?_
 refine za (zg (.ptr _ _) rfl) ?_
 refine za (zy rfl) ?_
 refine za (ze y6b rfl) ?_
 refine zh (zj y5t rfl rfl) rfl ?_
 refine qd rfl ?_
 refine za (ze jf rfl) ?_
 refine za (ze z8p rfl) ?_
 refine zh (zj tyS9 rfl rfl) rfl ?_
 refine za (ze jf rfl) ?_
 refine za (ze Zl rfl) ?_
 refine zh (zj tyS3 rfl rfl) rfl ?_
 refine za (yb (u':=vagg (x1p ⟨u.try_.Done,u.try_.Instance,u.try_.Status⟩)) (vq [(0,[vint u.try_.Done]),(1,[vstr u.try_.Instance]),(2,[vint u.try_.Status])] x2e x2u rfl ⟨rfl,.inl ⟨_,rfl,rfl,rfl⟩,rfl,rfl,.inl ⟨_,rfl,rfl,rfl⟩,rfl,rfl,.inl ⟨_,rfl,rfl,rfl⟩,rfl,trivial⟩) rfl) ?_
 refine Zp (rn [(0,6),(2,7),(3,8),(4,9)]) [(0,_,_,some _),(2,_,_,some _),(3,_,_,some _),(4,_,_,some _)] [] (x7q v.bench ⟨u.try_.Done,u.try_.Instance,u.try_.Status⟩ bench2 hb2) ⟨rfl,rfl,rfl,rfl,trivial⟩ ⟨.inl (.inl rfl),.inl (.inl rfl),trivial⟩ ⟨⟨⟨rfl,rfl⟩,trivial⟩,⟨rfl,trivial⟩,⟨rfl,trivial⟩,⟨rfl,trivial⟩,trivial⟩ rfl ?_
 refine ⟨rfl,?_⟩
 refine zd ?_
 refine zd ?_
 refine ko bf (fun hbb => ?_) (fun hbb => ?_)
 ·subst hbb
  refine ko (decide ((((o.Tries++[u.try_]).length:Int))=E.s.Tries)) (fun he => ?_) (fun he => ?_)
  skip
  ·replace H:=ift he H
   have e1:=(Option.some.inj H).symm
   cases e1
   refine Wn 1 19 6 E.b6 (.dat (vval (PB E.b6))) rfl rfl rfl (fun g w M v hb h=>jc hb h) ?_
   refine vu 6 5 7 E.m7 (.dat (vval (.map (some E.m7)))) rfl rfl rfl (fun g w M v hb h=>ju hb h) ?_
   refine vu 6 6 8 E.m8 (.dat (vval (.map (some E.m8)))) rfl rfl rfl (fun g w M v hb h=>ju hb h) ?_
   refine vu 6 7 9 E.m9 (.dat (vval (.map (some E.m9)))) rfl rfl rfl (fun g w M v hb h=>ju hb h) ?_
   refine yo mixed hN rfl rfl ?_
   refine za (ze jf rfl) ?_
   refine za (ze Zl rfl) ?_
   refine zh (zj tyS3 rfl rfl) rfl ?_
   refine za (ye (z7j _ _ hb) ⟨.inl rfl,trivial⟩) ?_
   refine za (qs rfl) ?_
   refine qd rfl ?_
   refine zf rfl rfl rfl (zg (.rptr _ _ _ _ _) rfl) ?_
   refine zf rfl rfl rfl (wu rfl) ?_
   refine zf rfl rfl rfl (ql kw rfl) ?_
   refine y22 [(2,.rowA v.ho 84 4 ((outE fh v.out).set u.call_.toNat [vstr o.Call,vhd h2,vint o.Done,vint o.Status])),(52,dT h2 (o.Tries++[u.try_]))] rfl rfl rfl (z27 52 (o.Tries++[u.try_]).length yw (.tail _ (.head _)) (z0b rd1 (Qs ku rfl (by rw [List.length_set]; exact wh.symm) he1 rfl))) ⟨rfl,rfl,trivial⟩ ?_
   refine yd rfl rfl rfl (Zm Zi rfl rfl) rfl ?_
   refine zf rfl rfl rfl (zg (.ptr _ _) rfl) ?_
   refine zf rfl rfl rfl (zy rfl) ?_
   refine zf rfl rfl rfl (ze Yi rfl) ?_
   refine zf rfl rfl rfl (ze Qn rfl) ?_
   refine yd rfl rfl rfl (zj tyS3 rfl rfl) rfl ?_
   refine zf rfl rfl rfl (yb (u':=zn true) (qz rfl rfl) (vh he)) ?_
   refine za (yn rfl rfl rfl) ?_
   refine qd rfl ?_
   refine zc rfl rfl rfl ?_
   refine zc rfl rfl rfl ?_
   refine zc rfl rfl rfl ?_
   refine zc rfl rfl rfl ?_
   refine zc rfl rfl rfl ?_
   refine zc rfl rfl rfl ?_
   refine zc rfl rfl rfl ?_
   refine zc rfl rfl rfl ?_
   refine zc rfl rfl rfl ?_
   refine zc rfl rfl rfl ?_
   refine zc rfl rfl rfl ?_
   refine zc rfl rfl rfl ?_
   refine zc rfl rfl rfl ?_
   refine zc rfl rfl rfl ?_
   refine zc rfl rfl rfl ?_
   refine zc rfl rfl rfl ?_
   refine za (yh rfl rfl rfl) ?_
   refine ⟨rfl,?_⟩
   refine zk true rfl (fun h => ?_) (fun h=>(by cases h))
   refine zd ?_
   have he2:(((outE fh v.out).set u.call_.toNat [vstr o.Call,vhd h2,vint o.Done,vint o.Status]).set u.call_.toNat ([vstr o.Call,vhd h2,vint o.Done,vint o.Status].set 2 (vint u.try_.Done)))[u.call_.toNat]?=some [vstr o.Call,vhd h2,vint u.try_.Done,vint o.Status]:=List.getElem?_set_self (by rw [List.length_set,wh]; exact hkl)
   refine yo mixed hN rfl rfl ?_
   refine za (zg (.rptr _ _ _ _ _) rfl) ?_
   refine za (zg (.rptr _ _ _ _ _) rfl) ?_
   refine qd rfl ?_
   refine za (ze jf rfl) ?_
   refine za (ze Zl rfl) ?_
   refine zh (zj tyS3 rfl rfl) rfl ?_
   refine za (wu rfl) ?_
   refine za (ql z1c rfl) ?_
   refine zi (Ym tyS3 rfl rfl rfl (by rw [List.length_set]; exact wh.symm) he1 rfl) rfl ?_
   refine za (wu rfl) ?_
   refine za (ql Ql rfl) ?_
   refine zi (Ym tyS3 rfl rfl rfl (by rw [List.length_set,List.length_set]; exact wh.symm) he2 rfl) rfl ?_
   refine ⟨rfl,?_⟩
   refine zo ?_
   exact ⟨trivial,(h2,v.ha),[(50,52)],[],trivial,rfl,⟨rfl,(congrArg (fun e=>some (some (AObj.rowA v.ho 84 4 e))) (Eq.trans set3 (z54 (fh:=fh) (k:=u.call_.toNat) (h:=h2) (o:=(⟨o.Call,(o.Tries++[u.try_]),u.try_.Done,u.try_.Status⟩:yf)) hkl).symm)),rfl,rfl,rfl,rfl,rfl,rfl,rfl,rfl,trivial⟩,rfl,rfl,.inl ⟨[],trivial,rfl⟩⟩
  ·replace H:=iff_ he H
   obtain ⟨q,hq,H⟩:=bnd H
   refine z0w 1 18 5 75 (v.again.length) yw rfl rfl rfl rfl ?_
   refine ko q (fun hqq => ?_) (fun hqq => ?_)
   skip
   ·subst hqq
    replace H:=iff_ (b := !true) rfl H
    obtain ⟨hag,H⟩:=gif H
    obtain ⟨d,hd,H⟩:=bnd H
    have e1:=(Option.some.inj H).symm
    cases e1
    refine Wn 1 19 6 E.b6 (.dat (vval (PB E.b6))) rfl rfl rfl (fun g w M v hb h=>jc hb h) ?_
    refine vu 6 5 7 E.m7 (.dat (vval (.map (some E.m7)))) rfl rfl rfl (fun g w M v hb h=>ju hb h) ?_
    refine vu 6 6 8 E.m8 (.dat (vval (.map (some E.m8)))) rfl rfl rfl (fun g w M v hb h=>ju hb h) ?_
    refine vu 6 7 9 E.m9 (.dat (vval (.map (some E.m9)))) rfl rfl rfl (fun g w M v hb h=>ju hb h) ?_
    refine yo mixed hN rfl rfl ?_
    refine za (ze jf rfl) ?_
    refine za (ze Zl rfl) ?_
    refine zh (zj tyS3 rfl rfl) rfl ?_
    refine za (ye (z7j _ _ hb) ⟨.inl rfl,trivial⟩) ?_
    refine za (qs rfl) ?_
    refine qd rfl ?_
    refine zf rfl rfl rfl (zg (.rptr _ _ _ _ _) rfl) ?_
    refine zf rfl rfl rfl (wu rfl) ?_
    refine zf rfl rfl rfl (ql kw rfl) ?_
    refine y22 [(2,.rowA v.ho 84 4 ((outE fh v.out).set u.call_.toNat [vstr o.Call,vhd h2,vint o.Done,vint o.Status])),(52,dT h2 (o.Tries++[u.try_]))] rfl rfl rfl (z27 52 (o.Tries++[u.try_]).length yw (.tail _ (.head _)) (z0b rd1 (Qs ku rfl (by rw [List.length_set]; exact wh.symm) he1 rfl))) ⟨rfl,rfl,trivial⟩ ?_
    refine yd rfl rfl rfl (Zm Zi rfl rfl) rfl ?_
    refine zf rfl rfl rfl (zg (.ptr _ _) rfl) ?_
    refine zf rfl rfl rfl (zy rfl) ?_
    refine zf rfl rfl rfl (ze Yi rfl) ?_
    refine zf rfl rfl rfl (ze Qn rfl) ?_
    refine yd rfl rfl rfl (zj tyS3 rfl rfl) rfl ?_
    refine zf rfl rfl rfl (yb (u':=zn false) (qz rfl rfl) (vh he)) ?_
    refine za (yn rfl rfl rfl) ?_
    refine qd rfl ?_
    refine zf rfl rfl rfl (zg (.ptr _ _) rfl) ?_
    refine zf rfl rfl rfl (zy rfl) ?_
    refine zf rfl rfl rfl (ze Yi rfl) ?_
    refine zf rfl rfl rfl (ze z1f rfl) ?_
    refine yd rfl rfl rfl (wm xc rfl rfl rfl) rfl ?_
    refine zf rfl rfl rfl (zg (.ptr _ _) rfl) ?_
    refine zf rfl rfl rfl (zy rfl) ?_
    refine zf rfl rfl rfl (ze z8q rfl) ?_
    refine yd rfl rfl rfl (zj vp rfl rfl) rfl ?_
    refine zf rfl rfl rfl (zg (.ptr _ _) rfl) ?_
    refine zf rfl rfl rfl (zy rfl) ?_
    refine zf rfl rfl rfl (ze z8r rfl) ?_
    refine yd rfl rfl rfl (zj vp rfl rfl) rfl ?_
    refine zf rfl rfl rfl (zg (.dat _) rfl) ?_
    refine yd rfl rfl rfl (z8z (id:=75) (es:=List.map yl v.again) (y9n E.s.Budget E.starts v.again u.try_.Done _ hq) ⟨.inl (.inl (.inl rfl)),.inl (.inl (.inl rfl)),.inr ⟨congrArg (Slot.row 75) yw,rfl⟩,.inl (.inl (.inl rfl)),trivial⟩ (fun _ _ _ _ h=>h)) rfl ?_
    refine zf rfl rfl rfl (qs rfl) ?_
    refine za (yn rfl rfl rfl) ?_
    refine ⟨rfl,?_⟩
    refine zk false rfl (fun h=>(by cases h)) (fun h => ?_)
    refine zp ?_
    refine zd ?_
    refine zm hN rfl ?_
    refine za (zg (.ptr _ _) rfl) ?_
    refine za (zg (.ptr _ _) rfl) ?_
    refine za (zy rfl) ?_
    refine za (ze z8r rfl) ?_
    refine zh (zj vp rfl rfl) rfl ?_
    refine qd rfl ?_
    refine za (yb (u':=vlst (List.map yl [u.try_.Done])) (qr [[_]] vg ⟨rfl,.inl ⟨_,rfl,rfl,rfl⟩,rfl,trivial⟩ rfl rfl) rfl) ?_
    refine zi (jo vg (fun _=>rfl) rfl rfl rfl ⟨by simp,by simp; omega⟩ rfl) rfl ?_
    refine za (zy rfl) ?_
    refine za (ze z8r rfl) ?_
    refine Zo (Zn vp rfl rfl yw rfl) rfl rfl ?_
    refine jj 1 18 75 76 rfl rfl rfl yw rfl fun ha2 => ?_
    refine Zg 1 15 3 v.next.length yw rfl rfl rfl ?_
    refine yo mixed hN rfl rfl ?_
    refine za (zg (.ptr _ _) rfl) ?_
    refine za (zy rfl) ?_
    refine za (ze z0a rfl) ?_
    refine zh (zj vp rfl rfl) rfl ?_
    refine za (ze y58 rfl) ?_
    refine zh (zj tyS3 rfl rfl) rfl ?_
    refine qd rfl ?_
    refine za (zg (.ptr _ _) rfl) ?_
    refine za (zy rfl) ?_
    refine za (ze Yi rfl) ?_
    refine za (ze z20 rfl) ?_
    refine zh (zj tyS3 rfl rfl) rfl ?_
    refine za (zg (.ptr _ _) rfl) ?_
    refine za (zy rfl) ?_
    refine za (ze Yi rfl) ?_
    refine za (ze Wx rfl) ?_
    refine zh (zj tyS3 rfl rfl) rfl ?_
    refine za (zg (.rptr _ _ _ _ _) rfl) ?_
    refine za (wu rfl) ?_
    refine za (ql kw rfl) ?_
    refine z5x [(2,.rowA v.ho 84 4 ((outE fh v.out).set u.call_.toNat [vstr o.Call,vhd h2,vint o.Done,vint o.Status])),(52,dT h2 (o.Tries++[u.try_]))] (z27 52 (o.Tries++[u.try_]).length yw (.tail _ (.head _)) (z0b rd1 (Qs ku rfl (by rw [List.length_set]; exact wh.symm) he1 rfl))) ⟨rfl,rfl,trivial⟩ ?_
    refine zh (Zm Zi rfl rfl) rfl ?_
    refine za (ym _ rfl rfl (.inl ⟨rfl,rfl⟩)) ?_
    refine za (ye (x9t _ _ _ d hd) ⟨.inl rfl,.inl rfl,.inl rfl,trivial⟩) ?_
    refine za (ym _ rfl rfl (.inl ⟨rfl,rfl⟩)) ?_
    refine zh (z3a jr rfl rfl yw (by rw [List.length_map]; exact ⟨hk0.1,hnx⟩)) rfl ?_
    refine zi (y6d (C:=yl) (xs:=v.next) tyS3 rfl rfl rfl rfl (by omega) (fun _=>rfl) rfl) rfl ?_
    refine ⟨rfl,?_⟩
    refine w0u 1 15 3 v.next.length (by rw [List.length_map,List.length_set]) rfl rfl rfl ?_
    refine x0h ?_
    exact ⟨trivial,(h2,ha2),[(50,52),(5,76)],[],trivial,rfl,⟨rfl,(congrArg (fun e=>some (some (AObj.rowA v.ho 84 4 e))) ((z54 (fh:=fh) (k:=u.call_.toNat) (h:=h2) (o:=(⟨o.Call,(o.Tries++[u.try_]),o.Done,o.Status⟩:yf)) hkl).symm)),rfl,rfl,rfl,rfl,rfl,rfl,rfl,rfl,trivial⟩,rfl,rfl,.inl ⟨[],trivial,rfl⟩⟩
   ·subst hqq
    replace H:=ift (b := !false) rfl H
    have e1:=(Option.some.inj H).symm
    cases e1
    refine Wn 1 19 6 E.b6 (.dat (vval (PB E.b6))) rfl rfl rfl (fun g w M v hb h=>jc hb h) ?_
    refine vu 6 5 7 E.m7 (.dat (vval (.map (some E.m7)))) rfl rfl rfl (fun g w M v hb h=>ju hb h) ?_
    refine vu 6 6 8 E.m8 (.dat (vval (.map (some E.m8)))) rfl rfl rfl (fun g w M v hb h=>ju hb h) ?_
    refine vu 6 7 9 E.m9 (.dat (vval (.map (some E.m9)))) rfl rfl rfl (fun g w M v hb h=>ju hb h) ?_
    refine yo mixed hN rfl rfl ?_
    refine za (ze jf rfl) ?_
    refine za (ze Zl rfl) ?_
    refine zh (zj tyS3 rfl rfl) rfl ?_
    refine za (ye (z7j _ _ hb) ⟨.inl rfl,trivial⟩) ?_
    refine za (qs rfl) ?_
    refine qd rfl ?_
    refine zf rfl rfl rfl (zg (.rptr _ _ _ _ _) rfl) ?_
    refine zf rfl rfl rfl (wu rfl) ?_
    refine zf rfl rfl rfl (ql kw rfl) ?_
    refine y22 [(2,.rowA v.ho 84 4 ((outE fh v.out).set u.call_.toNat [vstr o.Call,vhd h2,vint o.Done,vint o.Status])),(52,dT h2 (o.Tries++[u.try_]))] rfl rfl rfl (z27 52 (o.Tries++[u.try_]).length yw (.tail _ (.head _)) (z0b rd1 (Qs ku rfl (by rw [List.length_set]; exact wh.symm) he1 rfl))) ⟨rfl,rfl,trivial⟩ ?_
    refine yd rfl rfl rfl (Zm Zi rfl rfl) rfl ?_
    refine zf rfl rfl rfl (zg (.ptr _ _) rfl) ?_
    refine zf rfl rfl rfl (zy rfl) ?_
    refine zf rfl rfl rfl (ze Yi rfl) ?_
    refine zf rfl rfl rfl (ze Qn rfl) ?_
    refine yd rfl rfl rfl (zj tyS3 rfl rfl) rfl ?_
    refine zf rfl rfl rfl (yb (u':=zn false) (qz rfl rfl) (vh he)) ?_
    refine za (yn rfl rfl rfl) ?_
    refine qd rfl ?_
    refine zf rfl rfl rfl (zg (.ptr _ _) rfl) ?_
    refine zf rfl rfl rfl (zy rfl) ?_
    refine zf rfl rfl rfl (ze Yi rfl) ?_
    refine zf rfl rfl rfl (ze z1f rfl) ?_
    refine yd rfl rfl rfl (wm xc rfl rfl rfl) rfl ?_
    refine zf rfl rfl rfl (zg (.ptr _ _) rfl) ?_
    refine zf rfl rfl rfl (zy rfl) ?_
    refine zf rfl rfl rfl (ze z8q rfl) ?_
    refine yd rfl rfl rfl (zj vp rfl rfl) rfl ?_
    refine zf rfl rfl rfl (zg (.ptr _ _) rfl) ?_
    refine zf rfl rfl rfl (zy rfl) ?_
    refine zf rfl rfl rfl (ze z8r rfl) ?_
    refine yd rfl rfl rfl (zj vp rfl rfl) rfl ?_
    refine zf rfl rfl rfl (zg (.dat _) rfl) ?_
    refine yd rfl rfl rfl (z8z (id:=75) (es:=List.map yl v.again) (y9n E.s.Budget E.starts v.again u.try_.Done _ hq) ⟨.inl (.inl (.inl rfl)),.inl (.inl (.inl rfl)),.inr ⟨congrArg (Slot.row 75) yw,rfl⟩,.inl (.inl (.inl rfl)),trivial⟩ (fun _ _ _ _ h=>h)) rfl ?_
    refine zf rfl rfl rfl (qs rfl) ?_
    refine za (yn rfl rfl rfl) ?_
    refine ⟨rfl,?_⟩
    refine zk true rfl (fun h => ?_) (fun h=>(by cases h))
    refine zd ?_
    have he2:(((outE fh v.out).set u.call_.toNat [vstr o.Call,vhd h2,vint o.Done,vint o.Status]).set u.call_.toNat ([vstr o.Call,vhd h2,vint o.Done,vint o.Status].set 2 (vint u.try_.Done)))[u.call_.toNat]?=some [vstr o.Call,vhd h2,vint u.try_.Done,vint o.Status]:=List.getElem?_set_self (by rw [List.length_set,wh]; exact hkl)
    refine jj 1 18 75 76 rfl rfl rfl yw rfl fun ha2 => ?_
    refine yo mixed hN rfl rfl ?_
    refine za (zg (.rptr _ _ _ _ _) rfl) ?_
    refine za (zg (.rptr _ _ _ _ _) rfl) ?_
    refine qd rfl ?_
    refine za (ze jf rfl) ?_
    refine za (ze Zl rfl) ?_
    refine zh (zj tyS3 rfl rfl) rfl ?_
    refine za (wu rfl) ?_
    refine za (ql z1c rfl) ?_
    refine zi (Ym tyS3 rfl rfl rfl (by rw [List.length_set]; exact wh.symm) he1 rfl) rfl ?_
    refine za (wu rfl) ?_
    refine za (ql Ql rfl) ?_
    refine zi (Ym tyS3 rfl rfl rfl (by rw [List.length_set,List.length_set]; exact wh.symm) he2 rfl) rfl ?_
    refine ⟨rfl,?_⟩
    refine zo ?_
    exact ⟨trivial,(h2,ha2),[(50,52),(5,76)],[],trivial,rfl,⟨rfl,(congrArg (fun e=>some (some (AObj.rowA v.ho 84 4 e))) (Eq.trans set3 (z54 (fh:=fh) (k:=u.call_.toNat) (h:=h2) (o:=(⟨o.Call,(o.Tries++[u.try_]),u.try_.Done,u.try_.Status⟩:yf)) hkl).symm)),rfl,rfl,rfl,rfl,rfl,rfl,rfl,rfl,trivial⟩,rfl,rfl,.inl ⟨[],trivial,rfl⟩⟩
 ·subst hbb
  replace H:=ift (b := !false || decide ((((o.Tries++[u.try_]).length:Int))=E.s.Tries)) rfl H
  have e1:=(Option.some.inj H).symm
  cases e1
  refine Wn 1 19 6 E.b6 (.dat (vval (PB E.b6))) rfl rfl rfl (fun g w M v hb h=>jc hb h) ?_
  refine vu 6 5 7 E.m7 (.dat (vval (.map (some E.m7)))) rfl rfl rfl (fun g w M v hb h=>ju hb h) ?_
  refine vu 6 6 8 E.m8 (.dat (vval (.map (some E.m8)))) rfl rfl rfl (fun g w M v hb h=>ju hb h) ?_
  refine vu 6 7 9 E.m9 (.dat (vval (.map (some E.m9)))) rfl rfl rfl (fun g w M v hb h=>ju hb h) ?_
  refine yo mixed hN rfl rfl ?_
  refine za (ze jf rfl) ?_
  refine za (ze Zl rfl) ?_
  refine zh (zj tyS3 rfl rfl) rfl ?_
  refine za (ye (z7j _ _ hb) ⟨.inl rfl,trivial⟩) ?_
  refine za (qs rfl) ?_
  refine qd rfl ?_
  refine zc rfl rfl rfl ?_
  refine zc rfl rfl rfl ?_
  refine zc rfl rfl rfl ?_
  refine zc rfl rfl rfl ?_
  refine zc rfl rfl rfl ?_
  refine zc rfl rfl rfl ?_
  refine zc rfl rfl rfl ?_
  refine zc rfl rfl rfl ?_
  refine zc rfl rfl rfl ?_
  refine zc rfl rfl rfl ?_
  refine zc rfl rfl rfl ?_
  refine za (yh rfl rfl rfl) ?_
  refine qd rfl ?_
  refine zc rfl rfl rfl ?_
  refine zc rfl rfl rfl ?_
  refine zc rfl rfl rfl ?_
  refine zc rfl rfl rfl ?_
  refine zc rfl rfl rfl ?_
  refine zc rfl rfl rfl ?_
  refine zc rfl rfl rfl ?_
  refine zc rfl rfl rfl ?_
  refine zc rfl rfl rfl ?_
  refine zc rfl rfl rfl ?_
  refine zc rfl rfl rfl ?_
  refine zc rfl rfl rfl ?_
  refine zc rfl rfl rfl ?_
  refine zc rfl rfl rfl ?_
  refine zc rfl rfl rfl ?_
  refine zc rfl rfl rfl ?_
  refine za (yh rfl rfl rfl) ?_
  refine ⟨rfl,?_⟩
  refine zk true rfl (fun h => ?_) (fun h=>(by cases h))
  refine zd ?_
  have he2:(((outE fh v.out).set u.call_.toNat [vstr o.Call,vhd h2,vint o.Done,vint o.Status]).set u.call_.toNat ([vstr o.Call,vhd h2,vint o.Done,vint o.Status].set 2 (vint u.try_.Done)))[u.call_.toNat]?=some [vstr o.Call,vhd h2,vint u.try_.Done,vint o.Status]:=List.getElem?_set_self (by rw [List.length_set,wh]; exact hkl)
  refine yo mixed hN rfl rfl ?_
  refine za (zg (.rptr _ _ _ _ _) rfl) ?_
  refine za (zg (.rptr _ _ _ _ _) rfl) ?_
  refine qd rfl ?_
  refine za (ze jf rfl) ?_
  refine za (ze Zl rfl) ?_
  refine zh (zj tyS3 rfl rfl) rfl ?_
  refine za (wu rfl) ?_
  refine za (ql z1c rfl) ?_
  refine zi (Ym tyS3 rfl rfl rfl (by rw [List.length_set]; exact wh.symm) he1 rfl) rfl ?_
  refine za (wu rfl) ?_
  refine za (ql Ql rfl) ?_
  refine zi (Ym tyS3 rfl rfl rfl (by rw [List.length_set,List.length_set]; exact wh.symm) he2 rfl) rfl ?_
  refine ⟨rfl,?_⟩
  refine zo ?_
  exact ⟨trivial,(h2,v.ha),[(50,52)],[],trivial,rfl,⟨rfl,(congrArg (fun e=>some (some (AObj.rowA v.ho 84 4 e))) (Eq.trans set3 (z54 (fh:=fh) (k:=u.call_.toNat) (h:=h2) (o:=(⟨o.Call,(o.Tries++[u.try_]),u.try_.Done,u.try_.Status⟩:yf)) hkl).symm)),rfl,rfl,rfl,rfl,rfl,rfl,rfl,rfl,trivial⟩,rfl,rfl,.inl ⟨[],trivial,rfl⟩⟩
end Go.Proofs.YtgdijjmdfcgifaaGreat
