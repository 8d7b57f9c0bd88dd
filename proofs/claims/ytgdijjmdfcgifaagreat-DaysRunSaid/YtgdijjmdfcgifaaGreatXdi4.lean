/- A day of calls, the document's way: one step. -/
import Derived.Test.YtgdijjmdfcgifaaGreatXdp
namespace Go.Proofs.YtgdijjmdfcgifaaGreat
open Go.RowKit Go.ChangeMaps Go.MapKept
set_option linter.unusedVariables false
set_option maxRecDepth 100000
set_option maxHeartbeats 4000000
noncomputable def z51 (way:List qv) (k:Nat) (u:qv) (e:Int):Option (Int ⊕ Int):=
 if decide (e < 0)=true then some (.inl (k:Int)) else (at? way e).bind fun x=>if decide (u.try_.Done < x.try_.Done)=true then some (.inl (k:Int)) else if decide (u.try_.Done=x.try_.Done)=true then (if decide (u.number_ < x.number_)=true then some (.inl (k:Int)) else some (.inl e)) else some (.inl e)
noncomputable def z3g (e:Int):Option Int:=some e
noncomputable def z3t (way:List qv):Option Int:=forL (z51 way) z3g 0 way (-1)
noncomputable def z50 (next:List Int) (k:Nat) (x:Int) (s:Int):Option (Int ⊕ Int):=
 if decide (0≤x)=true then if decide (s < 0)=true then some (.inl (k:Int)) else (at? next s).bind fun y=>if decide (x < y)=true then some (.inl (k:Int)) else some (.inl s) else some (.inl s)
noncomputable def z1u (next:List Int):Option Int:=forL (z50 next) z3g 0 next (-1)
noncomputable def z1z (way:List qv) (next:List Int) (e s:Int):Option Bool:=
 if decide (0≤e)=true then if decide (s < 0)=true then some true else (at? way e).bind fun x=>(at? next s).bind fun y=>some (decide (x.try_.Done≤y)) else some false
abbrev StG:=List yf×List Int×List qv×Int×List Int×qn
abbrev evG (g:StG) (ho hx hy ha:Value):Ev:=⟨g.1,g.2.1,g.2.2.1,g.2.2.2.1,g.2.2.2.2.1,g.2.2.2.2.2,ho,hx,hy,ha⟩
noncomputable def Wb (s:qb) (ph:List zz) (starts:List Int) (g:StG):Option (StG×Bool):=
 if g.2.2.1.length≤1000000∧g.2.1.length≤1000000 then (z3t g.2.2.1).bind fun e=>(z1u g.2.1).bind fun st=>(z1z g.2.2.1 g.2.1 e st).bind fun b =>
  if b=true then (at? g.2.2.1 e).bind fun u=>(at? g.1 u.call_).bind fun o=>if u.call_ < (g.2.1.length:Int) then (z10 s starts g.2.2.2.2.2 o g.2.2.2.2.1 u).bind fun r =>
    some ((g.1.set u.call_.toNat r.2.1,z9r g.2.1 u.call_.toNat r.2.2.2,g.2.2.1.eraseIdx e.toNat,g.2.2.2.1,r.2.2.1,r.1),true) else none
  else if decide (0≤st)=true then (at? g.2.1 st).bind fun y=>(at? g.1 st).bind fun o=>(Ys s ph g.2.2.2.2.2 o g.2.2.1 g.2.2.2.1 st y).bind fun r =>
    some ((g.1.set st.toNat r.1,g.2.1.set st.toNat (-1),r.2.1,r.2.2,g.2.2.2.2.1,g.2.2.2.2.2),true)
  else some (g,false) else none
abbrev dOx (E:Ec) (v:Ev) (c15 c16:Slot):AObj := .box (some E.b1) 104 [.dat (vlst (List.map ya E.s.Instances)),.dat (vint E.s.Tries),.dat (vint E.s.Timeout),.dat (vint E.s.Wait),.dat (vint E.s.MostWait),.dat (vint E.s.Budget.Window),.dat (vint E.s.Budget.Least),.dat (vint E.s.Budget.Part),.dat (vint E.s.Outliers.Fails),.dat (vint E.s.Outliers.Base),.dat (vint E.s.Outliers.Most),.dat (vint E.s.Outliers.Share),.dat (vlst (List.map qq E.ph)),.dat (vlst (List.map wz E.calls)),.dat (vval v.ho),c15,c16,.dat (vint v.sent),.dat (vval v.ha),.dat (vval (PB E.b6)),.dat (vlst (List.map yl E.starts))]
abbrev dayX (E:Ec) (fh:Nat→Value) (v:Ev) (c15 c16:Slot):List (Nat×AObj):=[(1,dOx E v c15 c16),(2,dR fh v),(3,dX v),(4,dY v),(5,dA v),(6,dB E v),(7,dM E.m7 v.bench.row_),(8,dM E.m8 v.bench.times_),(9,dM E.m9 v.bench.until_)]
theorem x77 (h:Value) (way:List qv) (i:Nat) (hi:i < way.length) (hn:way.length≤1000000) :
  FnI (ι:=Value) Tryz.prog 79 [vval h,vint (i:Int),vint ((i:Int)+1)] [(4,.rowA h 139 6 (List.map xn way))] (fun y=>zu [vhd y]) (fun y=>[(4,.rowA y 139 6 (List.map xn (way.eraseIdx i)))]):=by
 have h1:=x79 h (List.map xn way) i (by rw [List.length_map]; exact hi) (by rw [List.length_map]; exact hn)
 have e:(List.map xn way).eraseIdx i=List.map xn (way.eraseIdx i):=by
  refine List.ext_getElem? fun j => ?_
  rw [y4f,List.getElem?_map,List.getElem?_map,List.getElem?_map,y4f]
  split <;> rfl
 rw [e] at h1
 exact h1
section
variable {P:Program} {f:Nat→Slot} {dst:Option Tmp} {op:Op} {ty:TypeId} {pos:String} {af:Array Edge}
theorem x4a {gd:Option (Nat×Bool)} {rd:List (Nat×AObj)} (id n:Nat) {e:TypeId} {size:Nat} {es:List (List V)} {hv:Value} (hn:n=es.length) (hm:(id,AObj.rowA hv e size es)∈rd) (h:Stp P ⟨dst,op,ty,pos,af,gd⟩ f ⟨false,rdL rd,[],.dat (vval hv)⟩):Stp P ⟨dst,op,ty,pos,af,gd⟩ f ⟨false,rdL rd,[],.row id n⟩:=by
 intro X f' own g a w Q hr hd hx hrd K hK
 have ho:own id=some (some (.rowA hv e size es)):=hrd (id,some (some (.rowA hv e size es))) (List.mem_map.2 ⟨_,hm,rfl⟩)
 refine h X f' own g a w Q hr hd hx hrd K fun g' v w' hr'=>hK g' v w' ?_
 have hr2:Rel X (updS f' dst (.dat (vval hv))) own g' (a.put dst v) w':=hr'
 show Rel X (updS f' dst (.row id n)) own g' (a.put dst v) w'
 cases dst with
 | none=>exact hr2
 | some d =>
  obtain ⟨xs,q1,_⟩:=hr2.ob id _ ho
  have h3:=hr2.fr d
  have e1:Nat.beq d d=true:=by simp
  simp only [updS,e1,cond_true] at h3
  have h4:((a.put (some d) v).tmps).getD d undef=hv:=h3
  have h5:=z0i hr2 d (.row id n) (by rw [h4,hn]; exact q1)
  refine ⟨h5.kp,h5.m0,h5.n,h5.df,fun t => ?_,h5.ob,h5.sep,h5.mine,h5.fresh,h5.top⟩
  have h6:=h5.fr t
  revert h6
  simp only [updS]
  cases Nat.beq t d <;> exact fun h=>h
theorem x46 {gd:Option (Nat×Bool)} {rd:List (Nat×AObj)} (id b:Nat) {t:TypeId} {cs:List Slot} (hm:(id,AObj.box (some b) t cs)∈rd) (h:Stp P ⟨dst,op,ty,pos,af,gd⟩ f ⟨false,rdL rd,[],.ptr id 0⟩):Stp P ⟨dst,op,ty,pos,af,gd⟩ f ⟨false,rdL rd,[],.dat (vval (PB b))⟩:=by
 intro X f' own g a w Q hr hd hx hrd K hK
 have ho:own id=some (some (.box (some b) t cs)):=hrd (id,some (some (.box (some b) t cs))) (List.mem_map.2 ⟨_,hm,rfl⟩)
 refine h X f' own g a w Q hr hd hx hrd K fun g' v w' hr'=>hK g' v w' ?_
 have hr2:Rel X (updS f' dst (.ptr id 0)) own g' (a.put dst v) w':=hr'
 show Rel X (updS f' dst (.dat (vval (PB b)))) own g' (a.put dst v) w'
 cases dst with
 | none=>exact hr2
 | some d =>
  obtain ⟨b',l,q1,q0,_⟩:=hr2.ob id _ ho
  obtain rfl:b=b':=q0 _ rfl
  have h3:=hr2.fr d
  have e1:Nat.beq d d=true:=by simp
  simp only [updS,e1,cond_true] at h3
  have h5:=z0i hr2 d (.dat (vval (PB b))) (jc q1 h3)
  refine ⟨h5.kp,h5.m0,h5.n,h5.df,fun t => ?_,h5.ob,h5.sep,h5.mine,h5.fresh,h5.top⟩
  have h6:=h5.fr t
  revert h6
  simp only [updS]
  cases Nat.beq t d <;> exact fun h=>h
end
theorem x7z (E:Ec) (fh:Nat→Value) (s:StG) (ho hx hy ha:Value) (r:StG×Bool) (H:Wb E.s E.ph E.starts s=some r):FnI Tryz.prog 44 [vval (PB E.b1)] (dayO E fh (evG s ho hx hy ha)++famT fh s.1) (fun _:(Nat→Value)×Value×Value=>zu [zn r.2]) (fun y=>dayO E y.1 (evG r.1 ho hx y.2.1 y.2.2)++famT y.1 r.1.1):=by
 refine y4c (ι:=(Nat→Value)×Value×Value) (l:=fun y=>dayO E y.1 (evG r.1 ho hx y.2.1 y.2.2)) (B:=fun y=>famT y.1 r.1.1) (by kernel_rfl) Tryz.func44 rfl rfl rfl rfl (fun _=>wa) fun X hN => ?_
 unfold Wb at H
 obtain ⟨⟨hl1,hl2⟩,H⟩:=gif H
 obtain ⟨e0,he0,H⟩:=bnd H
 obtain ⟨s0,hs0,H⟩:=bnd H
 obtain ⟨b,hb,H⟩:=bnd H
 refine wj 0 1 E.b1 (.ptr 1 0) rfl (fun g w M v hb h=>vx hb h) ?_
 refine zd ?_
 refine zm hN rfl ?_
 refine qe rfl ?_
 refine zd ?_
 refine zm hN rfl ?_
 refine qe rfl ?_
 refine zd ?_
 refine zd ?_
 refine Zg 1 16 4 s.2.2.1.length yw rfl rfl rfl ?_
 refine zm hN rfl ?_
 refine za (zg (.ptr _ _) rfl) ?_
 refine za (zy rfl) ?_
 refine za (ze xh rfl) ?_
 refine zh (zj xd rfl rfl) rfl ?_
 refine zh (Zm z8a rfl rfl) rfl ?_
 refine qd rfl ?_
 refine zw ?_
 refine wg (fun (k:Nat) (e:Int)=>[(0,.ptr 1 0),(3,.dat (vint e)),(13,.row 4 s.2.2.1.length),(14,.dat (vint (s.2.2.1.length:Int))),(15,.dat (vint (k:Int)))]) (fun (k:Nat) (e:Int)=>dayX E fh (evG s ho hx hy ha) (.dat (vval hx)) (.row 4 s.2.2.1.length)++famT fh s.1) (-1) he0 ⟨rfl,rfl,rfl,rfl,rfl,trivial⟩ (vr.2 ⟨by exact ⟨rfl,rfl,rfl,rfl,rfl,rfl,rfl,rfl,rfl,trivial⟩,(wc (lits:=dayX E fh (evG s ho hx hy ha) (.dat (vval hx)) (.row 4 s.2.2.1.length)) rfl wa (fun _=>rfl))⟩) (fun _ _=>z0j rfl wa) ?_ ?_
 ·rintro e hst
  obtain rfl:e0=e:=(Option.some.inj hst).symm
  refine zd ?_
  refine zm hN rfl ?_
  refine za (zq rfl rfl) ?_
  refine zd ?_
  refine zk _ rfl (fun h=>(lt_t h).elim) (fun h => ?_)
  refine qa ?_
  refine zd ?_
  refine zm hN rfl ?_
  refine qe rfl ?_
  refine zd ?_
  refine zd ?_
  refine Zw 1 16 4 s.2.2.1.length yw rfl rfl rfl ?_
  refine Zg 1 15 3 s.2.1.length yw rfl rfl rfl ?_
  refine zm hN rfl ?_
  refine za (zg (.ptr _ _) rfl) ?_
  refine za (zy rfl) ?_
  refine za (ze z0a rfl) ?_
  refine zh (zj vp rfl rfl) rfl ?_
  refine zh (Zm z09 rfl rfl) rfl ?_
  refine qd rfl ?_
  refine zw ?_
  refine wg (fun (k:Nat) (e:Int)=>[(0,.ptr 1 0),(3,.dat (vint e0)),(6,.dat (vint e)),(70,.row 3 s.2.1.length),(71,.dat (vint (s.2.1.length:Int))),(72,.dat (vint (k:Int)))]) (fun (k:Nat) (e:Int)=>dayX E fh (evG s ho hx hy ha) (.row 3 s.2.1.length) (.dat (vval hy))++famT fh s.1) (-1) hs0 ⟨rfl,rfl,rfl,rfl,rfl,rfl,trivial⟩ (vr.2 ⟨by exact ⟨rfl,rfl,rfl,rfl,rfl,rfl,rfl,rfl,rfl,trivial⟩,(wc (lits:=dayX E fh (evG s ho hx hy ha) (.row 3 s.2.1.length) (.dat (vval hy))) rfl wa (fun _=>rfl))⟩) (fun _ _=>z0j rfl wa) ?_ ?_
  ·rintro e hst
   obtain rfl:s0=e:=(Option.some.inj hst).symm
   refine zd ?_
   refine zm hN rfl ?_
   refine za (zq rfl rfl) ?_
   refine zd ?_
   refine zk _ rfl (fun h=>(lt_t h).elim) (fun h => ?_)
   refine qa ?_
   refine zd ?_
   refine zw ?_
   refine Zg 1 16 4 s.2.2.1.length yw rfl rfl rfl ?_
   refine qi (ι:=Unit) (fun _=>[(0,.ptr 1 0),(3,.dat (vint e0)),(6,.dat (vint s0)),(96,.dat (zn b))]) (fun _=>dayX E fh (evG s ho hx hy ha) (.row 3 s.2.1.length) (.row 4 s.2.2.1.length)++famT fh s.1) (fun _=>True) (fun _=>z0j rfl wa) ?_ ?_
   ·skip
    unfold z1z at hb
    refine ko (decide (0≤e0)) (fun h1 => ?_) (fun h1 => ?_)
    ·replace hb:=ift h1 hb
     refine ko (decide (s0 < 0)) (fun h2 => ?_) (fun h2 => ?_)
     skip
     ·replace hb:=ift h2 hb
      cases hb
      refine yo mixed hN rfl rfl ?_
      refine qd rfl ?_
      refine za (yb (u':=zn true) (ke rfl rfl) (vh h1)) ?_
      refine qd rfl ?_
      refine zf rfl rfl rfl (zg (.dat _) rfl) ?_
      refine zf rfl rfl rfl (yb (u':=zn true) (zq rfl rfl) (vh h2)) ?_
      refine zf rfl rfl rfl (zg (.dat _) rfl) ?_
      refine zc rfl rfl rfl ?_
      refine zc rfl rfl rfl ?_
      refine zc rfl rfl rfl ?_
      refine zc rfl rfl rfl ?_
      refine zc rfl rfl rfl ?_
      refine zc rfl rfl rfl ?_
      refine zc rfl rfl rfl ?_
      refine zc rfl rfl rfl ?_
      refine zc rfl rfl rfl ?_
      refine zc rfl rfl rfl ?_
      refine zc rfl rfl rfl ?_
      refine zc rfl rfl rfl ?_
      refine zc rfl rfl rfl ?_
      refine zc rfl rfl rfl ?_
      refine zc rfl rfl rfl ?_
      refine zc rfl rfl rfl ?_
      refine zc rfl rfl rfl ?_
      refine zf rfl rfl rfl (yh rfl rfl rfl) ?_
      refine za (yh rfl rfl rfl) ?_
      refine qe rfl ?_
      refine ⟨rfl,?_⟩
      exact ⟨(),trivial,⟨rfl,rfl,rfl,rfl,trivial⟩,vr.2 ⟨by exact ⟨rfl,rfl,rfl,rfl,rfl,rfl,rfl,rfl,rfl,trivial⟩,(wc (lits:=dayX E fh (evG s ho hx hy ha) (.row 3 s.2.1.length) (.row 4 s.2.2.1.length)) rfl wa (fun _=>rfl))⟩⟩
     ·replace hb:=iff_ h2 hb
      obtain ⟨x2,hx2,hb⟩:=bnd hb
      obtain ⟨y2,hy2,hb⟩:=bnd hb
      cases hb
      refine yo mixed hN rfl rfl ?_
      refine qd rfl ?_
      refine za (yb (u':=zn true) (ke rfl rfl) (vh h1)) ?_
      refine qd rfl ?_
      refine zf rfl rfl rfl (zg (.dat _) rfl) ?_
      refine zf rfl rfl rfl (yb (u':=zn false) (zq rfl rfl) (vh h2)) ?_
      refine zf rfl rfl rfl (zg (.dat _) rfl) ?_
      refine zf rfl rfl rfl (zg (.ptr _ _) rfl) ?_
      refine zf rfl rfl rfl (zy rfl) ?_
      refine zf rfl rfl rfl (ze xh rfl) ?_
      refine yd rfl rfl rfl (zj xd rfl rfl) rfl ?_
      refine zf rfl rfl rfl (zg (.dat _) rfl) ?_
      refine yd rfl rfl rfl (jx Yj rfl rfl rfl hx2) rfl ?_
      refine zf rfl rfl rfl (ql jf rfl) ?_
      refine zf rfl rfl rfl (ql xp rfl) ?_
      refine yd rfl rfl rfl (xq tyS3 rfl rfl (yp hx2).2 rfl) rfl ?_
      refine zf rfl rfl rfl (zg (.ptr _ _) rfl) ?_
      refine zf rfl rfl rfl (zy rfl) ?_
      refine zf rfl rfl rfl (ze z0a rfl) ?_
      refine yd rfl rfl rfl (zj vp rfl rfl) rfl ?_
      refine zf rfl rfl rfl (zg (.dat _) rfl) ?_
      refine yd rfl rfl rfl (jx jr rfl rfl rfl hy2) rfl ?_
      refine yd rfl rfl rfl (xq tyS3 rfl rfl (yp hy2).2 rfl) rfl ?_
      refine zf rfl rfl rfl (xi rfl rfl) ?_
      refine zf rfl rfl rfl (yn rfl rfl rfl) ?_
      refine za (yh rfl rfl rfl) ?_
      refine qe rfl ?_
      refine ⟨rfl,?_⟩
      exact ⟨(),trivial,⟨rfl,rfl,rfl,rfl,trivial⟩,vr.2 ⟨by exact ⟨rfl,rfl,rfl,rfl,rfl,rfl,rfl,rfl,rfl,trivial⟩,(wc (lits:=dayX E fh (evG s ho hx hy ha) (.row 3 s.2.1.length) (.row 4 s.2.2.1.length)) rfl wa (fun _=>rfl))⟩⟩
    ·replace hb:=iff_ h1 hb
     cases hb
     refine yo mixed hN rfl rfl ?_
     refine qd rfl ?_
     refine za (yb (u':=zn false) (ke rfl rfl) (vh h1)) ?_
     refine qd rfl ?_
     refine zc rfl rfl rfl ?_
     refine zc rfl rfl rfl ?_
     refine zc rfl rfl rfl ?_
     refine yg rfl rfl ?_
     refine yg rfl rfl ?_
     refine yg rfl rfl ?_
     refine yg rfl rfl ?_
     refine yg rfl rfl ?_
     refine yg rfl rfl ?_
     refine yg rfl rfl ?_
     refine yg rfl rfl ?_
     refine yg rfl rfl ?_
     refine yg rfl rfl ?_
     refine yg rfl rfl ?_
     refine yg rfl rfl ?_
     refine yg rfl rfl ?_
     refine yg rfl rfl ?_
     refine yg rfl rfl ?_
     refine yg rfl rfl ?_
     refine yg rfl rfl ?_
     refine zc rfl rfl rfl ?_
     refine za (yn rfl rfl rfl) ?_
     refine qe rfl ?_
     refine ⟨rfl,?_⟩
     exact ⟨(),trivial,⟨rfl,rfl,rfl,rfl,trivial⟩,vr.2 ⟨by exact ⟨rfl,rfl,rfl,rfl,rfl,rfl,rfl,rfl,rfl,trivial⟩,(wc (lits:=dayX E fh (evG s ho hx hy ha) (.row 3 s.2.1.length) (.row 4 s.2.2.1.length)) rfl wa (fun _=>rfl))⟩⟩
   ·rintro _ _
    refine z4v [61] wa rfl ?_
    refine Zw 1 15 3 s.2.1.length yw rfl rfl rfl ?_
    refine Zw 1 16 4 s.2.2.1.length yw rfl rfl rfl ?_
    refine zk _ rfl (fun h1 => ?_) (fun h1 => ?_)
    ·replace H:=ift h1 H
     obtain ⟨u,hu,H⟩:=bnd H
     obtain ⟨o,ho1,H⟩:=bnd H
     obtain ⟨hnx,H⟩:=gif H
     obtain ⟨rd,hd,H⟩:=bnd H
     cases H
     obtain ⟨i,rfl⟩:∃ i:Nat,e0=(i:Int):=⟨e0.toNat,(Int.toNat_of_nonneg (yp hu).1.1).symm⟩
     have hil:i < s.2.2.1.length:=by have:=(yp hu).1.2; omega
     refine zd ?_
     refine Zg 1 16 4 s.2.2.1.length yw rfl rfl rfl ?_
     refine zm hN rfl ?_
     refine za (zg (.ptr _ _) rfl) ?_
     refine za (zy rfl) ?_
     refine za (ze xh rfl) ?_
     refine zh (zj xd rfl rfl) rfl ?_
     refine qd rfl ?_
     refine zh (jx Yj rfl rfl rfl hu) rfl ?_
     refine zh (Yk z1b rfl rfl (yp hu).2 rfl) rfl ?_
     refine zi (qh 61 z49 rfl) rfl ?_
     refine zi (qf z1b rfl rfl rfl rfl) rfl ?_
     refine zd ?_
     refine Zw 1 16 4 s.2.2.1.length yw rfl rfl rfl ?_
     refine jd (ι:=Value) (os1:=[_,_,_,_,_,_,_,_]) (os2:=[_,_,_]) hN rfl rfl rfl ?_
     refine za (zg (.ptr _ _) rfl) ?_
     refine za (zg (.ptr _ _) rfl) ?_
     refine za (zy rfl) ?_
     refine za (ze xh rfl) ?_
     refine zh (zj xd rfl rfl) rfl ?_
     refine qd rfl ?_
     refine qd rfl ?_
     refine za (yy rfl rfl (by omega)) ?_
     refine ⟨_,_,x03 [(0,.ptr 1 0),(9,.ptr 61 0),(129,.ptr 1 0),(133,.dat (vval hy)),(134,.dat (vint (i:Int))),(136,.dat (vint ((i:Int)+1)))] [(1,dO E (evG s ho hx hy ha)),(2,dR fh (evG s ho hx hy ha)),(3,dX (evG s ho hx hy ha)),(5,dA (evG s ho hx hy ha)),(6,dB E (evG s ho hx hy ha)),(7,dM E.m7 s.2.2.2.2.2.row_),(8,dM E.m8 s.2.2.2.2.2.times_),(9,dM E.m9 s.2.2.2.2.2.until_),(61,.box none 139 ((xn u).map .dat))] (x77 hy s.2.2.1 i hil hl1) (kh (by kernel_rfl) rfl) wa ⟨rfl,rfl,rfl,rfl,rfl,rfl,trivial⟩ ⟨rfl,rfl,rfl,rfl,rfl,rfl,rfl,rfl,rfl,rfl,trivial⟩ (wc (lits:=dayO E fh (evG s ho hx hy ha)) rfl wa (fun _=>rfl)) rfl (fun _=>rfl),fun z => ?_⟩
     refine za (zy rfl) ?_
     refine za (ze xh rfl) ?_
     refine zi (vf xd rfl rfl rfl rfl) rfl ?_
     refine x06 1 16 (.dat (vval z)) rfl rfl y90 ?_
     refine wj 0 1 E.b1 (.dat (vval (PB E.b1))) rfl (fun g w M v hb h=>jc hb h) ?_
     refine jd (ι:=Value×Value) (os1:=[_,_]) (os2:=[]) hN rfl rfl rfl ?_
     refine qd rfl ?_
     refine zh (wm z1b rfl rfl rfl) rfl ?_
     refine ⟨_,_,z2h [(140,.dat (vval (PB E.b1))),(141,.dat (vagg (xn u)))] [] (x75 E fh (⟨s.1,s.2.1,s.2.2.1.eraseIdx i,s.2.2.2.1,s.2.2.2.2.1,s.2.2.2.2.2,ho,hx,z,ha⟩:Ev) u o ho1 hnx rd hd) (kh (by kernel_rfl) rfl) wa (fun _=>wa) ⟨rfl,rfl,trivial⟩ ⟨rfl,rfl,rfl,rfl,rfl,rfl,rfl,rfl,rfl,trivial⟩ (wc (lits:=dayO E fh (⟨s.1,s.2.1,s.2.2.1.eraseIdx i,s.2.2.2.1,s.2.2.2.2.1,s.2.2.2.2.2,ho,hx,z,ha⟩:Ev)) rfl wa (fun _=>rfl)) rfl (fun _=>rfl),fun z2 => ?_⟩
     refine zd ?_
     refine zm hN rfl ?_
     refine qe rfl ?_
     refine zo ?_
     exact ⟨trivial,(fxV fh u.call_.toNat z2.1,z,z2.2),[],[(2,.dat (zn true))],⟨rfl,trivial⟩,rfl,⟨rfl,rfl,rfl,rfl,rfl,rfl,rfl,rfl,rfl,trivial⟩,(wc (lits:=([]:List (Nat×AObj))) rfl wa (fun _=>rfl)),rfl,.inl ⟨[zn true],⟨rfl,trivial⟩,rfl⟩⟩
    ·replace H:=iff_ h1 H
     refine zd ?_
     refine zm hN rfl ?_
     refine qd rfl ?_
     refine za (ke rfl rfl) ?_
     refine qe rfl ?_
     refine zk _ rfl (fun h2 => ?_) (fun h2 => ?_)
     ·replace H:=ift h2 H
      obtain ⟨y,hy1,H⟩:=bnd H
      obtain ⟨o,ho1,H⟩:=bnd H
      obtain ⟨rs,hd,H⟩:=bnd H
      cases H
      have hnx:=(yp hy1).1.2
      refine jd (ι:=Value) (os1:=[_,_,_,_,_,_,_,_,_]) (os2:=[]) hN rfl rfl rfl ?_
      refine z5x [(1,dO E (evG s ho hx hy ha))] (x46 1 E.b1 (.head _) (z0b (fun _ h=>by cases h) (zg (.ptr 1 0) rfl))) ⟨rfl,trivial⟩ ?_
      refine qd rfl ?_
      refine za (zg (.ptr _ _) rfl) ?_
      refine za (zy rfl) ?_
      refine za (ze z0a rfl) ?_
      refine z5x [(1,dO E (evG s ho hx hy ha)),(3,dX (evG s ho hx hy ha))] (x4a 3 s.2.1.length yw (.tail _ (.head _)) (z0b rd1 (zj vp rfl rfl))) ⟨rfl,rfl,trivial⟩ ?_
      refine qd rfl ?_
      refine zh (jx jr rfl rfl rfl hy1) rfl ?_
      refine zh (xq tyS3 rfl rfl (yp hy1).2 rfl) rfl ?_
      refine ⟨_,_,z2h [(146,.dat (vval (PB E.b1))),(147,.dat (vint s0)),(154,.dat (vint y))] [] (x73 E fh (evG s ho hx hy ha) s0 y o ho1 hnx rs hd (w08 hd)) (kh (by kernel_rfl) rfl) wa (fun _=>wa) ⟨rfl,rfl,rfl,trivial⟩ ⟨rfl,rfl,rfl,rfl,rfl,rfl,rfl,rfl,rfl,trivial⟩ (wc (lits:=dayO E fh (evG s ho hx hy ha)) rfl wa (fun _=>rfl)) rfl (fun _=>rfl),fun z => ?_⟩
      refine zd ?_
      refine zm hN rfl ?_
      refine qe rfl ?_
      refine zo ?_
      exact ⟨trivial,(fh,z,ha),[],[(2,.dat (zn true))],⟨rfl,trivial⟩,rfl,⟨rfl,rfl,rfl,rfl,rfl,rfl,rfl,rfl,rfl,trivial⟩,(wc (lits:=([]:List (Nat×AObj))) rfl wa (fun _=>rfl)),rfl,.inl ⟨[zn true],⟨rfl,trivial⟩,rfl⟩⟩
     ·replace H:=iff_ h2 H
      cases H
      refine zd ?_
      refine zm hN rfl ?_
      refine qe rfl ?_
      refine zo ?_
      exact ⟨trivial,(fh,hy,ha),[],[(2,.dat (zn false))],⟨rfl,trivial⟩,rfl,⟨rfl,rfl,rfl,rfl,rfl,rfl,rfl,rfl,rfl,trivial⟩,(wc (lits:=([]:List (Nat×AObj))) rfl wa (fun _=>rfl)),rfl,.inl ⟨[zn false],⟨rfl,trivial⟩,rfl⟩⟩
  ·rintro k x e q hk0 hu2 hq hqq
   replace hq:z50 s.2.1 k x e=some q:=hq
   unfold z50 at hq
   refine zd ?_
   refine zm hN rfl ?_
   refine za (zq rfl rfl) ?_
   refine zd ?_
   refine zk _ rfl (fun h => ?_) (fun h=>(lt_f hk0 h).elim)
   refine zp ?_
   refine zd ?_
   refine zw ?_
   refine zd ?_
   refine zm hN rfl ?_
   refine qd rfl ?_
   refine zh (z26 jr rfl rfl rfl hu2) rfl ?_
   refine zh (xq tyS3 rfl rfl hu2 rfl) rfl ?_
   refine qe rfl ?_
   refine qe rfl ?_
   refine zd ?_
   refine ko (decide (0≤x)) (fun h1 => ?_) (fun h1 => ?_)
   ·replace hq:=ift h1 hq
    refine ko (decide (e < 0)) (fun h2 => ?_) (fun h2 => ?_)
    skip
    ·replace hq:=ift h2 hq
     cases hq
     refine zm hN rfl ?_
     refine qd rfl ?_
     refine za (yb (u':=zn true) (ke rfl rfl) (vh h1)) ?_
     refine qd rfl ?_
     refine zf rfl rfl rfl (zg (.dat _) rfl) ?_
     refine zf rfl rfl rfl (yb (u':=zn true) (zq rfl rfl) (vh h2)) ?_
     refine zf rfl rfl rfl (zg (.dat _) rfl) ?_
     refine zc rfl rfl rfl ?_
     refine zc rfl rfl rfl ?_
     refine zc rfl rfl rfl ?_
     refine zc rfl rfl rfl ?_
     refine zc rfl rfl rfl ?_
     refine zc rfl rfl rfl ?_
     refine zc rfl rfl rfl ?_
     refine zc rfl rfl rfl ?_
     refine zc rfl rfl rfl ?_
     refine zf rfl rfl rfl (yh rfl rfl rfl) ?_
     refine za (yh rfl rfl rfl) ?_
     refine zk true rfl (fun h => ?_) (fun h=>(by cases h))
     refine zm hN rfl ?_
     refine qd rfl ?_
     refine qe rfl ?_
     refine zm hN rfl ?_
     refine za (yy rfl rfl (by omega)) ?_
     refine qd rfl ?_
     exact ⟨_,rfl,⟨rfl,rfl,rfl,rfl,rfl,rfl,trivial⟩,vr.2 ⟨by exact ⟨rfl,rfl,rfl,rfl,rfl,rfl,rfl,rfl,rfl,trivial⟩,(wc (lits:=dayX E fh (evG s ho hx hy ha) (.row 3 s.2.1.length) (.dat (vval hy))) rfl wa (fun _=>rfl))⟩⟩
    ·replace hq:=iff_ h2 hq
     obtain ⟨y2,hy2,hq⟩:=bnd hq
     refine zm hN rfl ?_
     refine qd rfl ?_
     refine za (yb (u':=zn true) (ke rfl rfl) (vh h1)) ?_
     refine qd rfl ?_
     refine zf rfl rfl rfl (zg (.dat _) rfl) ?_
     refine zf rfl rfl rfl (yb (u':=zn false) (zq rfl rfl) (vh h2)) ?_
     refine zf rfl rfl rfl (zg (.dat _) rfl) ?_
     refine zf rfl rfl rfl (zg (.dat _) rfl) ?_
     refine zf rfl rfl rfl (zg (.ptr _ _) rfl) ?_
     refine zf rfl rfl rfl (zy rfl) ?_
     refine zf rfl rfl rfl (ze z0a rfl) ?_
     refine yd rfl rfl rfl (zj vp rfl rfl) rfl ?_
     refine zf rfl rfl rfl (zg (.dat _) rfl) ?_
     refine yd rfl rfl rfl (jx jr rfl rfl rfl hy2) rfl ?_
     refine yd rfl rfl rfl (xq tyS3 rfl rfl (yp hy2).2 rfl) rfl ?_
     refine zf rfl rfl rfl (zq rfl rfl) ?_
     refine zf rfl rfl rfl (yn rfl rfl rfl) ?_
     refine za (yh rfl rfl rfl) ?_
     refine zk _ rfl (fun h3 => ?_) (fun h3 => ?_)
     ·skip
      replace hq:=ift h3 hq
      cases hq
      refine zm hN rfl ?_
      refine qd rfl ?_
      refine qe rfl ?_
      refine zm hN rfl ?_
      refine za (yy rfl rfl (by omega)) ?_
      refine qd rfl ?_
      exact ⟨_,rfl,⟨rfl,rfl,rfl,rfl,rfl,rfl,trivial⟩,vr.2 ⟨by exact ⟨rfl,rfl,rfl,rfl,rfl,rfl,rfl,rfl,rfl,trivial⟩,(wc (lits:=dayX E fh (evG s ho hx hy ha) (.row 3 s.2.1.length) (.dat (vval hy))) rfl wa (fun _=>rfl))⟩⟩
     ·skip
      replace hq:=iff_ h3 hq
      cases hq
      refine zp ?_
      refine zm hN rfl ?_
      refine za (yy rfl rfl (by omega)) ?_
      refine qd rfl ?_
      exact ⟨_,rfl,⟨rfl,rfl,rfl,rfl,rfl,rfl,trivial⟩,vr.2 ⟨by exact ⟨rfl,rfl,rfl,rfl,rfl,rfl,rfl,rfl,rfl,trivial⟩,(wc (lits:=dayX E fh (evG s ho hx hy ha) (.row 3 s.2.1.length) (.dat (vval hy))) rfl wa (fun _=>rfl))⟩⟩
   ·replace hq:=iff_ h1 hq
    cases hq
    refine zm hN rfl ?_
    refine qd rfl ?_
    refine za (yb (u':=zn false) (ke rfl rfl) (vh h1)) ?_
    refine qd rfl ?_
    refine zc rfl rfl rfl ?_
    refine zc rfl rfl rfl ?_
    refine zc rfl rfl rfl ?_
    refine yg rfl rfl ?_
    refine yg rfl rfl ?_
    refine yg rfl rfl ?_
    refine yg rfl rfl ?_
    refine yg rfl rfl ?_
    refine yg rfl rfl ?_
    refine yg rfl rfl ?_
    refine yg rfl rfl ?_
    refine yg rfl rfl ?_
    refine zc rfl rfl rfl ?_
    refine za (yn rfl rfl rfl) ?_
    refine zk false rfl (fun h=>(by cases h)) (fun h => ?_)
    refine zp ?_
    refine zm hN rfl ?_
    refine za (yy rfl rfl (by omega)) ?_
    refine qd rfl ?_
    exact ⟨_,rfl,⟨rfl,rfl,rfl,rfl,rfl,rfl,trivial⟩,vr.2 ⟨by exact ⟨rfl,rfl,rfl,rfl,rfl,rfl,rfl,rfl,rfl,trivial⟩,(wc (lits:=dayX E fh (evG s ho hx hy ha) (.row 3 s.2.1.length) (.dat (vval hy))) rfl wa (fun _=>rfl))⟩⟩
 ·rintro k u e q hk0 hu2 hq hqq
  replace hq:z51 s.2.2.1 k u e=some q:=hq
  unfold z51 at hq
  refine z4v [60] wa rfl ?_
  refine zd ?_
  refine zm hN rfl ?_
  refine za (zq rfl rfl) ?_
  refine zd ?_
  refine zk _ rfl (fun h => ?_) (fun h=>(lt_f hk0 h).elim)
  refine zp ?_
  refine zd ?_
  refine zw ?_
  refine zd ?_
  refine zm hN rfl ?_
  refine qd rfl ?_
  refine zh (z26 Yj rfl rfl rfl hu2) rfl ?_
  refine zh (Yk z1b rfl rfl hu2 rfl) rfl ?_
  refine zi (qh 60 z49 rfl) rfl ?_
  refine qe rfl ?_
  refine zi (qf z1b rfl rfl rfl rfl) rfl ?_
  refine zd ?_
  refine ko (decide (e < 0)) (fun h1 => ?_) (fun h1 => ?_)
  ·replace hq:=ift h1 hq
   cases hq
   refine yo mixed hN rfl rfl ?_
   refine qd rfl ?_
   refine za (yb (u':=zn true) (zq rfl rfl) (vh h1)) ?_
   refine qd rfl ?_
   refine zc rfl rfl rfl ?_
   refine zc rfl rfl rfl ?_
   refine zc rfl rfl rfl ?_
   refine zc rfl rfl rfl ?_
   refine zc rfl rfl rfl ?_
   refine zc rfl rfl rfl ?_
   refine zc rfl rfl rfl ?_
   refine zc rfl rfl rfl ?_
   refine zc rfl rfl rfl ?_
   refine zc rfl rfl rfl ?_
   refine zc rfl rfl rfl ?_
   refine zc rfl rfl rfl ?_
   refine zc rfl rfl rfl ?_
   refine za (yh rfl rfl rfl) ?_
   refine qd rfl ?_
   refine zc rfl rfl rfl ?_
   refine zc rfl rfl rfl ?_
   refine zc rfl rfl rfl ?_
   refine zc rfl rfl rfl ?_
   refine zc rfl rfl rfl ?_
   refine zc rfl rfl rfl ?_
   refine zc rfl rfl rfl ?_
   refine zc rfl rfl rfl ?_
   refine zc rfl rfl rfl ?_
   refine zc rfl rfl rfl ?_
   refine zc rfl rfl rfl ?_
   refine zc rfl rfl rfl ?_
   refine zc rfl rfl rfl ?_
   refine zc rfl rfl rfl ?_
   refine yg rfl rfl ?_
   refine yg rfl rfl ?_
   refine yg rfl rfl ?_
   refine yg rfl rfl ?_
   refine yg rfl rfl ?_
   refine yg rfl rfl ?_
   refine yg rfl rfl ?_
   refine yg rfl rfl ?_
   refine yg rfl rfl ?_
   refine yg rfl rfl ?_
   refine yg rfl rfl ?_
   refine zc rfl rfl rfl ?_
   refine za (yh rfl rfl rfl) ?_
   refine ⟨rfl,?_⟩
   refine zk true rfl (fun h => ?_) (fun h=>(by cases h))
   refine zm hN rfl ?_
   refine qd rfl ?_
   refine qe rfl ?_
   refine zm hN rfl ?_
   refine za (yy rfl rfl (by omega)) ?_
   refine qd rfl ?_
   exact ⟨_,rfl,⟨rfl,rfl,rfl,rfl,rfl,trivial⟩,vr.2 ⟨by exact ⟨rfl,rfl,rfl,rfl,rfl,rfl,rfl,rfl,rfl,trivial⟩,(wc (lits:=dayX E fh (evG s ho hx hy ha) (.dat (vval hx)) (.row 4 s.2.2.1.length)) rfl wa (fun _=>rfl))⟩⟩
  ·replace hq:=iff_ h1 hq
   obtain ⟨x2,hx2,hq⟩:=bnd hq
   refine ko (decide (u.try_.Done < x2.try_.Done)) (fun h2 => ?_) (fun h2 => ?_)
   skip
   ·replace hq:=ift h2 hq
    cases hq
    refine yo mixed hN rfl rfl ?_
    refine qd rfl ?_
    refine za (yb (u':=zn false) (zq rfl rfl) (vh h1)) ?_
    refine qd rfl ?_
    refine zf rfl rfl rfl (ze jf rfl) ?_
    refine zf rfl rfl rfl (ze xp rfl) ?_
    refine yd rfl rfl rfl (zj tyS3 rfl rfl) rfl ?_
    refine zf rfl rfl rfl (zg (.ptr _ _) rfl) ?_
    refine zf rfl rfl rfl (zy rfl) ?_
    refine zf rfl rfl rfl (ze xh rfl) ?_
    refine yd rfl rfl rfl (zj xd rfl rfl) rfl ?_
    refine zf rfl rfl rfl (zg (.dat _) rfl) ?_
    refine yd rfl rfl rfl (jx Yj rfl rfl rfl hx2) rfl ?_
    refine zf rfl rfl rfl (ql jf rfl) ?_
    refine zf rfl rfl rfl (ql xp rfl) ?_
    refine yd rfl rfl rfl (xq tyS3 rfl rfl (yp hx2).2 rfl) rfl ?_
    refine zf rfl rfl rfl (yb (u':=zn true) (zq rfl rfl) (vh h2)) ?_
    refine za (yn rfl rfl rfl) ?_
    refine qd rfl ?_
    refine zc rfl rfl rfl ?_
    refine zc rfl rfl rfl ?_
    refine zc rfl rfl rfl ?_
    refine zc rfl rfl rfl ?_
    refine zc rfl rfl rfl ?_
    refine zc rfl rfl rfl ?_
    refine zc rfl rfl rfl ?_
    refine zc rfl rfl rfl ?_
    refine zc rfl rfl rfl ?_
    refine zc rfl rfl rfl ?_
    refine zc rfl rfl rfl ?_
    refine zc rfl rfl rfl ?_
    refine zc rfl rfl rfl ?_
    refine zc rfl rfl rfl ?_
    refine yg rfl rfl ?_
    refine yg rfl rfl ?_
    refine yg rfl rfl ?_
    refine yg rfl rfl ?_
    refine yg rfl rfl ?_
    refine yg rfl rfl ?_
    refine yg rfl rfl ?_
    refine yg rfl rfl ?_
    refine yg rfl rfl ?_
    refine yg rfl rfl ?_
    refine yg rfl rfl ?_
    refine zc rfl rfl rfl ?_
    refine za (yh rfl rfl rfl) ?_
    refine ⟨rfl,?_⟩
    refine zk true rfl (fun h => ?_) (fun h=>(by cases h))
    refine zm hN rfl ?_
    refine qd rfl ?_
    refine qe rfl ?_
    refine zm hN rfl ?_
    refine za (yy rfl rfl (by omega)) ?_
    refine qd rfl ?_
    exact ⟨_,rfl,⟨rfl,rfl,rfl,rfl,rfl,trivial⟩,vr.2 ⟨by exact ⟨rfl,rfl,rfl,rfl,rfl,rfl,rfl,rfl,rfl,trivial⟩,(wc (lits:=dayX E fh (evG s ho hx hy ha) (.dat (vval hx)) (.row 4 s.2.2.1.length)) rfl wa (fun _=>rfl))⟩⟩
   ·replace hq:=iff_ h2 hq
    refine ko (decide (u.try_.Done=x2.try_.Done)) (fun h3 => ?_) (fun h3 => ?_)
    skip
    ·replace hq:=ift h3 hq
     refine yo mixed hN rfl rfl ?_
     refine qd rfl ?_
     refine za (yb (u':=zn false) (zq rfl rfl) (vh h1)) ?_
     refine qd rfl ?_
     refine zf rfl rfl rfl (ze jf rfl) ?_
     refine zf rfl rfl rfl (ze xp rfl) ?_
     refine yd rfl rfl rfl (zj tyS3 rfl rfl) rfl ?_
     refine zf rfl rfl rfl (zg (.ptr _ _) rfl) ?_
     refine zf rfl rfl rfl (zy rfl) ?_
     refine zf rfl rfl rfl (ze xh rfl) ?_
     refine yd rfl rfl rfl (zj xd rfl rfl) rfl ?_
     refine zf rfl rfl rfl (zg (.dat _) rfl) ?_
     refine yd rfl rfl rfl (jx Yj rfl rfl rfl hx2) rfl ?_
     refine zf rfl rfl rfl (ql jf rfl) ?_
     refine zf rfl rfl rfl (ql xp rfl) ?_
     refine yd rfl rfl rfl (xq tyS3 rfl rfl (yp hx2).2 rfl) rfl ?_
     refine zf rfl rfl rfl (yb (u':=zn false) (zq rfl rfl) (vh h2)) ?_
     refine za (yn rfl rfl rfl) ?_
     refine qd rfl ?_
     refine zf rfl rfl rfl (ze jf rfl) ?_
     refine zf rfl rfl rfl (ze xp rfl) ?_
     refine yd rfl rfl rfl (zj tyS3 rfl rfl) rfl ?_
     refine zf rfl rfl rfl (zg (.ptr _ _) rfl) ?_
     refine zf rfl rfl rfl (zy rfl) ?_
     refine zf rfl rfl rfl (ze xh rfl) ?_
     refine yd rfl rfl rfl (zj xd rfl rfl) rfl ?_
     refine zf rfl rfl rfl (zg (.dat _) rfl) ?_
     refine yd rfl rfl rfl (jx Yj rfl rfl rfl hx2) rfl ?_
     refine zf rfl rfl rfl (ql jf rfl) ?_
     refine zf rfl rfl rfl (ql xp rfl) ?_
     refine yd rfl rfl rfl (xq tyS3 rfl rfl (yp hx2).2 rfl) rfl ?_
     refine zf rfl rfl rfl (yb (u':=zn true) (qz rfl rfl) (vh h3)) ?_
     refine zf rfl rfl rfl (zg (.dat _) rfl) ?_
     refine zf rfl rfl rfl (ze y57 rfl) ?_
     refine yd rfl rfl rfl (zj tyS3 rfl rfl) rfl ?_
     refine zf rfl rfl rfl (zg (.ptr _ _) rfl) ?_
     refine zf rfl rfl rfl (zy rfl) ?_
     refine zf rfl rfl rfl (ze xh rfl) ?_
     refine yd rfl rfl rfl (zj xd rfl rfl) rfl ?_
     refine zf rfl rfl rfl (zg (.dat _) rfl) ?_
     refine yd rfl rfl rfl (jx Yj rfl rfl rfl hx2) rfl ?_
     refine zf rfl rfl rfl (ql y57 rfl) ?_
     refine yd rfl rfl rfl (xq tyS3 rfl rfl (yp hx2).2 rfl) rfl ?_
     refine zf rfl rfl rfl (zq rfl rfl) ?_
     refine zf rfl rfl rfl (yh rfl rfl rfl) ?_
     refine za (yn rfl rfl rfl) ?_
     refine ⟨rfl,?_⟩
     refine zk _ rfl (fun h4 => ?_) (fun h4 => ?_)
     ·skip
      replace hq:=ift h4 hq
      cases hq
      refine zm hN rfl ?_
      refine qd rfl ?_
      refine qe rfl ?_
      refine zm hN rfl ?_
      refine za (yy rfl rfl (by omega)) ?_
      refine qd rfl ?_
      exact ⟨_,rfl,⟨rfl,rfl,rfl,rfl,rfl,trivial⟩,vr.2 ⟨by exact ⟨rfl,rfl,rfl,rfl,rfl,rfl,rfl,rfl,rfl,trivial⟩,(wc (lits:=dayX E fh (evG s ho hx hy ha) (.dat (vval hx)) (.row 4 s.2.2.1.length)) rfl wa (fun _=>rfl))⟩⟩
     ·skip
      replace hq:=iff_ h4 hq
      cases hq
      refine zp ?_
      refine zm hN rfl ?_
      refine za (yy rfl rfl (by omega)) ?_
      refine qd rfl ?_
      exact ⟨_,rfl,⟨rfl,rfl,rfl,rfl,rfl,trivial⟩,vr.2 ⟨by exact ⟨rfl,rfl,rfl,rfl,rfl,rfl,rfl,rfl,rfl,trivial⟩,(wc (lits:=dayX E fh (evG s ho hx hy ha) (.dat (vval hx)) (.row 4 s.2.2.1.length)) rfl wa (fun _=>rfl))⟩⟩
    ·replace hq:=iff_ h3 hq
     cases hq
     refine yo mixed hN rfl rfl ?_
     refine qd rfl ?_
     refine za (yb (u':=zn false) (zq rfl rfl) (vh h1)) ?_
     refine qd rfl ?_
     refine zf rfl rfl rfl (ze jf rfl) ?_
     refine zf rfl rfl rfl (ze xp rfl) ?_
     refine yd rfl rfl rfl (zj tyS3 rfl rfl) rfl ?_
     refine zf rfl rfl rfl (zg (.ptr _ _) rfl) ?_
     refine zf rfl rfl rfl (zy rfl) ?_
     refine zf rfl rfl rfl (ze xh rfl) ?_
     refine yd rfl rfl rfl (zj xd rfl rfl) rfl ?_
     refine zf rfl rfl rfl (zg (.dat _) rfl) ?_
     refine yd rfl rfl rfl (jx Yj rfl rfl rfl hx2) rfl ?_
     refine zf rfl rfl rfl (ql jf rfl) ?_
     refine zf rfl rfl rfl (ql xp rfl) ?_
     refine yd rfl rfl rfl (xq tyS3 rfl rfl (yp hx2).2 rfl) rfl ?_
     refine zf rfl rfl rfl (yb (u':=zn false) (zq rfl rfl) (vh h2)) ?_
     refine za (yn rfl rfl rfl) ?_
     refine qd rfl ?_
     refine zf rfl rfl rfl (ze jf rfl) ?_
     refine zf rfl rfl rfl (ze xp rfl) ?_
     refine yd rfl rfl rfl (zj tyS3 rfl rfl) rfl ?_
     refine zf rfl rfl rfl (zg (.ptr _ _) rfl) ?_
     refine zf rfl rfl rfl (zy rfl) ?_
     refine zf rfl rfl rfl (ze xh rfl) ?_
     refine yd rfl rfl rfl (zj xd rfl rfl) rfl ?_
     refine zf rfl rfl rfl (zg (.dat _) rfl) ?_
     refine yd rfl rfl rfl (jx Yj rfl rfl rfl hx2) rfl ?_
     refine zf rfl rfl rfl (ql jf rfl) ?_
     refine zf rfl rfl rfl (ql xp rfl) ?_
     refine yd rfl rfl rfl (xq tyS3 rfl rfl (yp hx2).2 rfl) rfl ?_
     refine zf rfl rfl rfl (yb (u':=zn false) (qz rfl rfl) (vh h3)) ?_
     refine zf rfl rfl rfl (zg (.dat _) rfl) ?_
     refine zc rfl rfl rfl ?_
     refine zc rfl rfl rfl ?_
     refine zc rfl rfl rfl ?_
     refine zc rfl rfl rfl ?_
     refine zc rfl rfl rfl ?_
     refine zc rfl rfl rfl ?_
     refine zc rfl rfl rfl ?_
     refine zc rfl rfl rfl ?_
     refine zc rfl rfl rfl ?_
     refine zc rfl rfl rfl ?_
     refine zc rfl rfl rfl ?_
     refine zf rfl rfl rfl (yn rfl rfl rfl) ?_
     refine za (yn rfl rfl rfl) ?_
     refine ⟨rfl,?_⟩
     refine zk false rfl (fun h=>(by cases h)) (fun h => ?_)
     refine zp ?_
     refine zm hN rfl ?_
     refine za (yy rfl rfl (by omega)) ?_
     refine qd rfl ?_
     exact ⟨_,rfl,⟨rfl,rfl,rfl,rfl,rfl,trivial⟩,vr.2 ⟨by exact ⟨rfl,rfl,rfl,rfl,rfl,rfl,rfl,rfl,rfl,trivial⟩,(wc (lits:=dayX E fh (evG s ho hx hy ha) (.dat (vval hx)) (.row 4 s.2.2.1.length)) rfl wa (fun _=>rfl))⟩⟩
end Go.Proofs.YtgdijjmdfcgifaaGreat
