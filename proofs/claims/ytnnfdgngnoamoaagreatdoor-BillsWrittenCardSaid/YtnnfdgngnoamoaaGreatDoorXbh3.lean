/- Bills: the walk of bills. -/
import Derived.Test.YtnnfdgngnoamoaaGreatDoorXbh2
import Derived.Test.YtnnfdgngnoamoaaGreatDoorPb
namespace Go.Proofs.YtnnfdgngnoamoaaGreatDoor
open Go.RowKit Go.ChangeMaps Go.MapKept
set_option linter.unusedVariables false
set_option maxRecDepth 100000
set_option maxHeartbeats 4000000
theorem x0o {b c:Bool} (h:b=c):zr b=zr c:=by rw [h]
abbrev bxB (b:Nat) (x:zm) (s:Slot):AObj := .box (some b) 50 [.dat (vstr x.Owner),.dat (vint x.Month),s,.dat (vint x.Cents)]
abbrev rwB (v:Value) (l:List yx):AObj := .rowA v 90 5 (List.map wh l)
abbrev Ab (f:Nat→Nat) (hd:Nat→Value) (O:List (Bs×zm)):List AObj:=O.mapIdx fun i p=>bxB (f i) p.2 (.dat (vval (hd i)))
abbrev Bb (hd:Nat→Value) (O:List (Bs×zm)):List AObj:=O.mapIdx fun i p=>rwB (hd i) p.2.Lines
abbrev RR (f:Nat→Nat) (hd:Nat→Value) (O:List (Bs×zm)):List (Nat×AObj):=fam2 (Ab f hd O) (Bb hd O)
theorem RRb {f:Nat→Nat} {hd:Nat→Value} {O:List (Bs×zm)}:Big (RR f hd O):=w5t (fun o ho=>by
 obtain ⟨i,hi⟩:=List.getElem?_of_mem ho
 rw [List.getElem?_mapIdx] at hi
 obtain ⟨p,_,rfl⟩:=Option.map_eq_some_iff.1 hi
 rfl) (fun o ho=>by
 obtain ⟨i,hi⟩:=List.getElem?_of_mem ho
 rw [List.getElem?_mapIdx] at hi
 obtain ⟨p,_,rfl⟩:=Option.map_eq_some_iff.1 hi
 rfl)
theorem w6x {f:Nat→Nat} {hd:Nat→Value} {O:List (Bs×zm)} (i:Nat) (p:Bs×zm) (h:O[i]?=some p):∃ cs:List Slot,(Ab f hd O)[i]?=some (AObj.box (some (f i)) 50 cs)∧∀ (j:Nat) (u:V),(wg p.2)[j]?=some u→∃ s,cs[j]?=some s∧x4x (fun o=>(Bb hd O)[i]?=some o) s u:=by
 refine ⟨_,z0q h,fun j u hu => ?_⟩
 rcases j with _ | _ | _ | _ | j
 ·cases hu; exact ⟨_,Z,.inl Z⟩
 ·cases hu; exact ⟨_,Z,.inl Z⟩
 ·cases hu; exact ⟨_,Z,.inr ⟨_,_,_,_,Z,Z,z0q h⟩⟩
 ·cases hu; exact ⟨_,Z,.inl Z⟩
 ·simp at hu
theorem w0v {f:Nat→Nat} {hd:Nat→Value} {O:List (Bs×zm)} {o:Bs} {x:zm} {b:Nat} {v:Value}:(Ab (fx f O.length b) (fxV hd O.length v) (O++[(o,x)]))[O.length]?=some (bxB b x (.dat (vval v))):=by
 rw [y62,w5a,y3x]
theorem w0u {hd:Nat→Value} {O:List (Bs×zm)} {o:Bs} {x:zm} {v:Value}:(Bb (fxV hd O.length v) (O++[(o,x)]))[O.length]?=some (rwB v x.Lines):=by
 rw [y62,y3x]
theorem w0q {f:Nat→Nat} {hd:Nat→Value} {O:List (Bs×zm)} {p:Bs×zm} {b:Nat} {v:Value} {j:Nat} {o:AObj} (hj:j≠O.length) (h:(Ab (fx f O.length b) (fxV hd O.length v) (O++[p]))[j]?=some o):(Ab f hd O)[j]?=some o:=
 y63 hj (fun m q hm=>by rw [w5b hm,y3y hm]) h
theorem w0p {hd:Nat→Value} {O:List (Bs×zm)} {p:Bs×zm} {v:Value} {j:Nat} {o:AObj} (hj:j≠O.length) (h:(Bb (fxV hd O.length v) (O++[p]))[j]?=some o):(Bb hd O)[j]?=some o:=
 y63 hj (fun m q hm=>by rw [y3y hm]) h
theorem x87 {f:Nat→Nat} {hd:Nat→Value} {O:List (Bs×zm)} {p:Bs×zm} {v:Value} {i j:Nat} {o:AObj} (hj:j≠i) (h:(Ab f (fxV hd i v) (O.set i p))[j]?=some o):(Ab f hd O)[j]?=some o:=
 y65 hj (fun m q hm=>by rw [y3y hm]) h
theorem x86 {hd:Nat→Value} {O:List (Bs×zm)} {p:Bs×zm} {v:Value} {i j:Nat} {o:AObj} (hj:j≠i) (h:(Bb (fxV hd i v) (O.set i p))[j]?=some o):(Bb hd O)[j]?=some o:=
 y65 hj (fun m q hm=>by rw [y3y hm]) h
theorem x83 {f:Nat→Nat} {hd:Nat→Value} {O:List (Bs×zm)} {o:Bs} {p:Bs×zm} {x:zm} {v:Value} {i:Nat} (h:O[i]?=some p):(Ab f (fxV hd i v) (O.set i (o,x)))[i]?=some (bxB (f i) x (.dat (vval v))):=by
 rw [y64 h,y3x]
theorem x82 {hd:Nat→Value} {O:List (Bs×zm)} {o:Bs} {p:Bs×zm} {x:zm} {v:Value} {i:Nat} (h:O[i]?=some p):(Bb (fxV hd i v) (O.set i (o,x)))[i]?=some (rwB v x.Lines):=by
 rw [y64 h,y3x]
theorem w2t (v1:zx) (v2:List zy) (v3:List zk) (v4:List (zz×Int)) (v5:Int) (r:List zm) (H:z78 v1 v2 v3 v4 v5=some r):Fn Tryz.prog 29 [vagg (yy v1),vlst (List.map yk v2),vlst (List.map yi v3),vmpG uw v4,vint v5] (yc [vlst (List.map wg r)]):=by
 refine ⟨by kernel_rfl,yl (us:=[vlst (List.map wg r)]) Tryz.func29 Z Z Z Z fun X hN => ?_⟩
 unfold z78 at H
 refine bE H fun all hall H=>gE H fun hal H=>bE H fun keys hkeys H=>gE H fun hkl H=>zc hN Z (zd (qr 1 Z) Z (qe Z (zc hN Z (ze (yg ql Z Z Z) Z (qd Z (qd Z (za (yb (w2w _ _ _ all hall) ⟨.inl Z,.inl Z,.inl Z,U⟩) (qe Z (zc hN Z (zd (y0y 2 Ze) Z (za (qy (.mp _) Z) (zc hN Z (qd Z (za (yb (w39 (u:=vmpA wm 8 vz all) Z) ⟨.inl Z,U⟩) (za (z3x (w4e x2t (by rw [List.length_map]; exact hal) Qx 64 [] (fun a0 a1 r h=>w2s a0 a1 r h) keys hkeys) ⟨.inl (.inl Z),.inr ⟨_,Z,Z⟩,U⟩) ?_)))))))))))))))
 refine qe Z (yw (ι:=List (Bs×zm)×((Nat→Nat)×(Nat→Value))) (fun i=>[(12,.mp 2)]) (fun i=>[(2,.opq none (qx wx (EPb i.2.1 i.1)))]++RR i.2.1 i.2.2 i.1) (fun i=>z3c i.1=some r) (fun i=>Zm Z RRb) ?_ ?_)
 ·skip
  refine zc hN Z (qd Z (za (yu x0c Z) (qd Z (yd (z59 (fun (k:Nat) (O:List (Bs×zm)) (y:(Nat→Nat)×(Nat→Value))=>[(1,.dat (vlst (List.map yk v2))),(3,.dat (vmpG uw v4)),(4,.dat (vint v5)),(5,.ptr 1 0),(11,.dat (vmpA wm 8 vz all)),(12,.mp 2),(34,.dat (vlst (List.map we keys))),(35,.dat (vint (keys.length:Int))),(36,.dat (vint (k:Int)))]) (fun (k:Nat) (O:List (Bs×zm)) (y:(Nat→Nat)×(Nat→Value))=>[(1,.box none 29 ((yy v1).map .dat)),(2,.opq none (qx wx (EPb y.1 O)))]++RR y.1 y.2 O) [] (fun _=>0,fun _=>(.slice none 0 0)) H ⟨Z,Z,Z,Z,Z,Z,Z,Z,Z,U⟩ (kq.2 ⟨⟨Z,Z,U⟩,fun p hp=>by cases hp⟩) (fun _ _ _=>Zm Z RRb) ?_ ?_)))))
  ·rintro O ⟨f,hd⟩ H
   refine zc hN Z (za (ye Z Z) (zf (zi _ Z (fun h=>(lt_t h).elim) (fun h => ?_))))
   exact qk ⟨(O,f,hd),H,⟨Z,U⟩,kq.2 ⟨⟨Z,U⟩,fun p hp=>xu Z RRb hp⟩⟩
  ·rintro k x O ⟨f,hd⟩ q hk0 hx H hq0
   replace H:z3d v1 all v2 v4 v5 x O=some q:=H
   unfold z3d at H
   refine gE H fun hk H=>bE H fun a ha H=>bE H fun n hn H=>bE H fun ls hls H=>Qf [3,55,56] RRb Z (zc hN Z (za (ye Z Z) (zf (zi _ Z (fun h => ?_) (fun h=>(lt_f hk0 h).elim)))))
   refine zp (zf (yd (zc hN Z (za (wq z1r (fun _=>Z) Z Z hx) (za (wo jv Z (qg hx) Z) (zd (qf 3 z6i Z) Z (zd (yz jv Z Z Z Z) Z (zf (wl mixed hN Z Z (qd Z (ze (yg jv Z Z Z) Z (za (x02 x uk Z Z Z hk ha) (ze (yg ql Z Z Z) Z (ze (yg jv Z Z Z) Z (qd Z (qd Z (ze (yg jv Z Z Z) Z (qd Z (za (yb (w4c _ _ _ n hn) ⟨.inl Z,.inl Z,.inl Z,U⟩) (za (yb (w2x a v1 x v5 n ls hls) ⟨.inl Z,.inl Z,.inl Z,.inl Z,.inl Z,U⟩) (qe Z ⟨Z,?_⟩)))))))))))))))))))))
   refine zf (zf (y9g (decide ((ls.length:Int)=0)) (fun hbb => ?_) (fun hbb => ?_)))
   ·refine tE hbb H fun H=>zq hN Z (qd Z (za (yu z1j Z) (za (yf (u':=zr true) (qc Z Z) (x0o hbb)) (zi true Z (fun h => ?_) (fun h=>(by cases h))))))
    exact qk (zq hN Z (za (wa Z Z (by omega)) (qd Z ⟨O,(f,hd),qj H,⟨Z,Z,Z,Z,Z,Z,Z,Z,Z,U⟩,kq.2 ⟨⟨Z,Z,U⟩,y8m (fun j o h=>y37 (lits:=[(1,.box none 29 ((yy v1).map .dat)),(2,.opq none (qx wx (EPb f O)))]) Z RRb h) (fun j o h=>y36 (lits:=[(1,.box none 29 ((yy v1).map .dat)),(2,.opq none (qx wx (EPb f O)))]) Z RRb h)⟩⟩)))
   ·refine fE hbb H fun H=>?_
    have hne:ls≠[]:=by rintro rfl; simp at hbb
    refine zq hN Z (qd Z (za (yu z1j Z) (za (yf (u':=zr false) (qc Z Z) (x0o hbb)) (zi false Z (fun h=>(by cases h)) (fun h => ?_)))))
    refine zp (zc hN Z (qd Z (za (zj z6u Z) (ze (zl tyS9 Z Z) Z (bE H fun ai hai H=>za (yb (y7p _ _ ai hai) ⟨.inl Z,.inl Z,U⟩) (qd Z (za (qm Z Z) (za (qm Z Z) (qe Z (qe Z (zf (bE H fun ap hap H=>gE H fun hko H=>zq hN Z (qd Z (qd Z (za (ja Zy (fun _=>Z) Z Z hap) (za (jd Qn Z) (za (wy tyS9 Z (qg (qi hap).2) Z) (qe Z (yw (ι:=List (Bs×zm)×((Nat→Nat)×(Nat→Value))) (fun i=>[(1,.dat (vlst (List.map yk v2))),(3,.dat (vmpG uw v4)),(4,.dat (vint v5)),(5,.ptr 1 0),(11,.dat (vmpA wm 8 vz all)),(12,.mp 2),(34,.dat (vlst (List.map we keys))),(35,.dat (vint (keys.length:Int))),(36,.dat (vint (k:Int))),(16,.dat (vlst (List.map wh ls))),(19,.dat (vstr ap.Owner))]) (fun i=>[(1,.box none 29 ((yy v1).map .dat)),(2,.opq none (qx wx (EPb i.2.1 i.1)))]++RR i.2.1 i.2.2 i.1) (fun i=>z1a ls ap.Owner i.1=some q) (fun i=>Zm Z RRb) ?_ ?_)))))))))))))))))))
    ·refine xz (zf ?_)
     rcases z41 O f ap.Owner with ⟨e1,e2,e3,e4⟩ | ⟨i0,a0,e1,e2,e3,e4⟩
     ·rw [e1] at H
      replace H:=ift (b:=(none:Option zm).isNone) Z H
      refine y9e 56 90 5 rfl rfl (zq hN rfl (za (zg (.mp _) rfl) (qd rfl (ze (z0k ap.Owner Ze rfl rfl hko) rfl (za (yf (u':=zr true) (y0x x0a rfl) (by rw [e2]; rfl)) ?_)))))
      refine zi true Z (fun h => ?_) (fun h=>(by cases h))
      refine z90 (ι:=Nat) hN (os1:=[_,_,_,_,_]) (os2:=[_]) rfl rfl rfl (za (zg (.mp _) rfl) (qd rfl (qd rfl (qd rfl (za (vj [(0,[vstr ap.Owner]),(1,[vint v5])] Ww x6w rfl ⟨rfl,.inl ⟨_,rfl,rfl,rfl⟩,rfl,rfl,.inl ⟨_,rfl,rfl,rfl⟩,rfl,trivial⟩) ⟨_,_,_,x07 (qr 55 rfl),fun q hq=>(by rw [List.mem_singleton.1 hq]; rfl),fun b k hk=>hk,fun b => ?_⟩)))))
      refine zd (z6x ap.Owner (some b) Ze rfl rfl rfl hko) rfl (w54 (z08 56 (4 * O.length+1+1000) [(1,.dat (vlst (List.map yk v2))),(3,.dat (vmpG uw v4)),(4,.dat (vint v5)),(5,.ptr 1 0),(11,.dat (vmpA wm 8 vz all)),(12,.mp 2),(34,.dat (vlst (List.map we keys))),(35,.dat (vint (keys.length:Int))),(36,.dat (vint (k:Int))),(16,.dat (vlst (List.map wh ls))),(19,.dat (vstr ap.Owner))] (o:=rwB (.slice none 0 0) []) (l:=[(55,bxB b ⟨ap.Owner,v5,[],0⟩ (.dat (vval (.slice none 0 0)))),(1,.box none 29 ((yy v1).map .dat)),(2,.opq none (qx wx (EPb (fx f O.length b) (O++[(ap.Owner,⟨ap.Owner,v5,[],0⟩)]))))]) (R:=z06 (Ab (fx f O.length b) (fxV hd O.length (.slice none 0 0)) (O++[(ap.Owner,⟨ap.Owner,v5,[],0⟩)])) (Bb (fxV hd O.length (.slice none 0 0)) (O++[(ap.Owner,⟨ap.Owner,v5,[],0⟩)])) O.length) (y8o w0u) (y35 RRb) rfl rfl rfl rfl ⟨rfl,rfl,rfl,rfl,rfl,rfl,rfl,rfl,rfl,rfl,rfl,trivial⟩ ⟨rfl,rfl,by rw [x50,← e4 (some b)]; rfl,trivial⟩ rfl (y8n (fun j o hj h=>y37 (lits:=[(1,.box none 29 ((yy v1).map .dat)),(2,.opq none (qx wx (EPb f O)))]) rfl RRb (w0q hj h)) (fun j o hj h=>y36 (lits:=[(1,.box none 29 ((yy v1).map .dat)),(2,.opq none (qx wx (EPb f O)))]) rfl RRb (w0p hj h))) ?_))
      exact z08 55 (4 * O.length+0+1000) [(1,.dat (vlst (List.map yk v2))),(3,.dat (vmpG uw v4)),(4,.dat (vint v5)),(5,.ptr 1 0),(11,.dat (vmpA wm 8 vz all)),(12,.mp 2),(34,.dat (vlst (List.map we keys))),(35,.dat (vint (keys.length:Int))),(36,.dat (vint (k:Int))),(16,.dat (vlst (List.map wh ls))),(19,.dat (vstr ap.Owner))] (o:=bxB b ⟨ap.Owner,v5,[],0⟩ (.dat (vval (.slice none 0 0)))) (l:=[(1,.box none 29 ((yy v1).map .dat)),(2,.opq none (qx wx (EPb (fx f O.length b) (O++[(ap.Owner,⟨ap.Owner,v5,[],0⟩)]))))]) (R:=RR (fx f O.length b) (fxV hd O.length (.slice none 0 0)) (O++[(ap.Owner,⟨ap.Owner,v5,[],0⟩)])) (y38 w0v) RRb Z Z Z Z ⟨Z,Z,Z,Z,Z,Z,Z,Z,Z,Z,Z,U⟩ ⟨Z,Z,U⟩ Z (x4k Z RRb) ⟨((O++[(ap.Owner,⟨ap.Owner,v5,[],0⟩)]),(fx f O.length b),(fxV hd O.length (.slice none 0 0))),H,z1u _ (uo Z),Ys Z RRb⟩
     ·rw [e2] at H
      replace H:=iff_ (b:=(some a0:Option zm).isNone) Z H
      refine zq hN rfl (za (zg (.mp _) rfl) (qd rfl (ze (z0k ap.Owner Ze rfl rfl hko) rfl (za (yf (u':=zr false) (y0x x0a rfl) (by rw [e3]; rfl)) ?_))))
      refine zi false Z (fun h=>(by cases h)) (fun h => ?_)
      exact zp (xx ⟨(O,f,hd),H,⟨Z,Z,Z,Z,Z,Z,Z,Z,Z,Z,Z,U⟩,kq.2 ⟨⟨Z,Z,U⟩,y8m (fun j o h=>y37 (lits:=[(1,.box none 29 ((yy v1).map .dat)),(2,.opq none (qx wx (EPb f O)))]) Z RRb h) (fun j o h=>y36 (lits:=[(1,.box none 29 ((yy v1).map .dat)),(2,.opq none (qx wx (EPb f O)))]) Z RRb h)⟩⟩)
    ·rintro ⟨O1,f1,hd1⟩ H
     unfold z1a at H
     simp only at H
     refine bE H fun bl hb H=>gE H fun hlen2 H=>bE H fun c hc H=>?_
     obtain ⟨i,g1,g3,g4⟩:∃ i,O1[i]?=some (ap.Owner,bl)∧lkG (EPb f1 O1) ap.Owner=some (some (f1 i))∧∀ v,ptG O1 ap.Owner v=O1.set i (ap.Owner,v):=by
      rcases z41 O1 f1 ap.Owner with ⟨e1,_⟩ | ⟨i,a2,g1,g2,g3,g4⟩
      ·rw [e1] at hb; cases hb
      ·rw [g2] at hb; cases hb; exact ⟨i,g1,g3,g4⟩
     unfold sumC at hc
     refine zc hN rfl (za (zg (.mp _) rfl) (qd rfl (ze (yf (u':=vval (PB (f1 i))) (z0k ap.Owner Ze rfl rfl hko) (by rw [g3]; rfl)) rfl ?_)))
     refine qe Z (zf (z95 50 (4 * i+0+1000) [(1,.dat (vlst (List.map yk v2))),(3,.dat (vmpG uw v4)),(4,.dat (vint v5)),(5,.ptr 1 0),(11,.dat (vmpA wm 8 vz all)),(12,.mp 2),(34,.dat (vlst (List.map we keys))),(35,.dat (vint (keys.length:Int))),(36,.dat (vint (k:Int))),(16,.dat (vlst (List.map wh ls))),(19,.dat (vstr ap.Owner)),(20,.dat (vval (PB (f1 i))))] (l:=[(1,.box none 29 ((yy v1).map .dat)),(2,.opq none (qx wx (EPb f1 O1)))]) (R:=RR f1 hd1 O1) (y38 (z0q g1)) RRb Z Z ⟨Z,Z,Z,Z,Z,Z,Z,Z,Z,Z,Z,Z,U⟩ ⟨Z,Z,U⟩ (fun p hp=>xu Z RRb hp) (z95 51 (4 * i+1+1000) [(1,.dat (vlst (List.map yk v2))),(3,.dat (vmpG uw v4)),(4,.dat (vint v5)),(5,.ptr 1 0),(11,.dat (vmpA wm 8 vz all)),(12,.mp 2),(34,.dat (vlst (List.map we keys))),(35,.dat (vint (keys.length:Int))),(36,.dat (vint (k:Int))),(16,.dat (vlst (List.map wh ls))),(19,.dat (vstr ap.Owner)),(20,.dat (vval (PB (f1 i))))] (l:=[(50,bxB (f1 i) bl (.dat (vval (hd1 i)))),(1,.box none 29 ((yy v1).map .dat)),(2,.opq none (qx wx (EPb f1 O1)))]) (R:=z06 (Ab f1 hd1 O1) (Bb hd1 O1) i) (y8o (z0q g1)) (y35 RRb) Z Z ⟨Z,Z,Z,Z,Z,Z,Z,Z,Z,Z,Z,Z,U⟩ ⟨Z,Z,Z,U⟩ (fun p hp=>xu Z (y35 RRb) hp) (Qf [4,52] (y34 RRb) Z (z9z 50 2 51 52 Z Z Z Z (y9c 20 50 (f1 i) (.ptr 50 0) Z (fun g w M v hb h=>y6d hb h) (zq hN Z (za (zg (.ptr _ _) Z) (za (zg (.ptr _ _) Z) (za (jc Z) (za (zj z0e Z) (ze (zl Zu Z Z) Z (qd Z (zd (je xi (fun _=>Z) Z (by rw [List.length_map]) Z ⟨hne,hlen2⟩ Z) Z ?_))))))))))))))
     refine za (jc Z) (za (zj z0e Z) (Ye (Yc Zu Z Z (by rw [List.length_map]) Z) Z Z ?_))
     refine zc hN Z (qd Z (za (yu z1j Z) (qd Z (yd (ve (fun (m:Nat) (s:Int)=>[(1,.dat (vlst (List.map yk v2))),(3,.dat (vmpG uw v4)),(4,.dat (vint v5)),(5,.ptr 1 0),(11,.dat (vmpA wm 8 vz all)),(12,.mp 2),(34,.dat (vlst (List.map we keys))),(35,.dat (vint (keys.length:Int))),(36,.dat (vint (k:Int))),(16,.dat (vlst (List.map wh ls))),(20,.ptr 50 0),(88,.dat (vlst (List.map wh ls))),(89,.dat (vint (ls.length:Int))),(90,.dat (vint (m:Int)))]) (fun (m:Nat) (s:Int)=>[(50,bxB (f1 i) ⟨bl.Owner,bl.Month,bl.Lines,s⟩ (.row 52 (bl.Lines++ls).length)),(52,.row 90 5 (List.map wh (bl.Lines++ls))),(1,.box none 29 ((yy v1).map .dat)),(2,.opq none (qx wx (EPb f1 O1)))]++z50 (Ab f1 hd1 O1) (Bb hd1 O1) i) bl.Cents hc ⟨Z,Z,Z,Z,Z,Z,Z,Z,Z,Z,Z,Z,Z,Z,U⟩ (kq.2 ⟨⟨Z,Z,Z,Z,U⟩,x4j (fun j o hj h=>y8l (lits:=[(51,rwB (hd1 i) bl.Lines),(50,bxB (f1 i) bl (.dat (vval (hd1 i)))),(1,.box none 29 ((yy v1).map .dat)),(2,.opq none (qx wx (EPb f1 O1)))]) Z RRb hj h) (fun j o hj h=>y8k (lits:=[(51,rwB (hd1 i) bl.Lines),(50,bxB (f1 i) bl (.dat (vval (hd1 i)))),(1,.box none 29 ((yy v1).map .dat)),(2,.opq none (qx wx (EPb f1 O1)))]) Z RRb hj h)⟩) (fun _ _=>Zm Z (y34 RRb)) ?_ ?_)))))
     ·rintro s hs
      obtain rfl:c=s:=(Option.some.inj hs).symm
      refine zc hN Z (za (ye Z Z) (zf (zi _ Z (fun h=>(lt_t h).elim) (fun h => ?_))))
      refine qk (Qf (l:=[(50,bxB (f1 i) ⟨bl.Owner,bl.Month,bl.Lines,c⟩ (.row 52 (bl.Lines++ls).length)),(52,.row 90 5 (List.map wh (bl.Lines++ls))),(1,.box none 29 ((yy v1).map .dat)),(2,.opq none (qx wx (EPb f1 O1)))]) (R:=z50 (Ab f1 hd1 O1) (Bb hd1 O1) i) [53] (y34 RRb) Z (z92 50 2 52 53 Z Z Z (by rw [List.length_map]) Z fun hv => ?_))
      refine y4h 53 (4 * i+1+1000) [(1,.dat (vlst (List.map yk v2))),(3,.dat (vmpG uw v4)),(4,.dat (vint v5)),(5,.ptr 1 0),(11,.dat (vmpA wm 8 vz all)),(12,.mp 2),(34,.dat (vlst (List.map we keys))),(35,.dat (vint (keys.length:Int))),(36,.dat (vint (k:Int)))] (o:=rwB hv (bl.Lines++ls)) (l:=[(50,bxB (f1 i) ⟨bl.Owner,bl.Month,bl.Lines++ls,c⟩ (.dat (vval hv))),(1,.box none 29 ((yy v1).map .dat)),(2,.opq none (qx wx (EPb f1 O1)))]) (R:=z06 (Ab f1 (fxV hd1 i hv) (O1.set i (ap.Owner,⟨bl.Owner,bl.Month,bl.Lines++ls,c⟩))) (Bb (fxV hd1 i hv) (O1.set i (ap.Owner,⟨bl.Owner,bl.Month,bl.Lines++ls,c⟩))) i) (y8o (x82 g1)) (y35 RRb) rfl rfl rfl rfl ⟨rfl,rfl,rfl,rfl,rfl,rfl,rfl,rfl,rfl,trivial⟩ ⟨rfl,rfl,rfl,trivial⟩ rfl (y8n (fun j o hj h=>y8l (lits:=[(50,bxB (f1 i) ⟨bl.Owner,bl.Month,bl.Lines,c⟩ (.row 52 (bl.Lines++ls).length)),(52,.row 90 5 (List.map wh (bl.Lines++ls))),(1,.box none 29 ((yy v1).map .dat)),(2,.opq none (qx wx (EPb f1 O1)))]) rfl RRb hj (x87 hj h)) (fun j o hj h=>y8k (lits:=[(50,bxB (f1 i) ⟨bl.Owner,bl.Month,bl.Lines,c⟩ (.row 52 (bl.Lines++ls).length)),(52,.row 90 5 (List.map wh (bl.Lines++ls))),(1,.box none 29 ((yy v1).map .dat)),(2,.opq none (qx wx (EPb f1 O1)))]) rfl RRb hj (x86 hj h))) (y4h 50 (4 * i+0+1000) [(1,.dat (vlst (List.map yk v2))),(3,.dat (vmpG uw v4)),(4,.dat (vint v5)),(5,.ptr 1 0),(11,.dat (vmpA wm 8 vz all)),(12,.mp 2),(34,.dat (vlst (List.map we keys))),(35,.dat (vint (keys.length:Int))),(36,.dat (vint (k:Int)))] (o:=bxB (f1 i) ⟨bl.Owner,bl.Month,bl.Lines++ls,c⟩ (.dat (vval hv))) (l:=[(1,.box none 29 ((yy v1).map .dat)),(2,.opq none (qx wx (EPb f1 (O1.set i (ap.Owner,⟨bl.Owner,bl.Month,bl.Lines++ls,c⟩)))))]) (R:=RR f1 (fxV hd1 i hv) (O1.set i (ap.Owner,⟨bl.Owner,bl.Month,bl.Lines++ls,c⟩))) (y38 (x83 g1)) RRb rfl rfl rfl rfl ⟨rfl,rfl,rfl,rfl,rfl,rfl,rfl,rfl,rfl,trivial⟩ ⟨rfl,by rw [y4p _ g1]; rfl,trivial⟩ rfl (x4k rfl RRb) ?_)
      refine zq hN Z (za (wa Z Z (by omega)) (qd Z ?_))
      rw [g4] at H
      exact ⟨_,(f1,(fxV hd1 i hv)),qj H,⟨Z,Z,Z,Z,Z,Z,Z,Z,Z,U⟩,Ys Z RRb⟩
     ·rintro m x2 s q2 hm hx2 H2 hq2
      obtain rfl:Sum.inl (wr (s+x2.Cents))=q2:=Option.some.inj H2
      refine Qf [4] (y34 RRb) Z (zc hN Z (za (ye Z Z) (zf (zi _ Z (fun h => ?_) (fun h=>(lt_f hm h).elim)))))
      refine zp (zf (yd (zc hN Z (za (wq y0s (fun _=>Z) Z Z hx2) (za (wo Wz Z (qg hx2) Z) (zd (qf 4 z3m Z) Z (zd (yz Wz Z Z Z Z) Z (wl mixed hN Z Z (za (zg (.ptr _ _) Z) (za (jc Z) (za (zj xk Z) (ze (zl tyS3 Z Z) Z (za (zj y4y Z) (ze (zl tyS3 Z Z) Z (za (yj _ Z Z (.inl ⟨Z,Z⟩)) (za (jc Z) (za (zj xk Z) (zd (wv tyS3 Z Z Z Z) Z ⟨Z,?_⟩))))))))))))))))))
      exact zq hN Z (za (wa Z Z (by omega)) (qd Z ⟨_,Z,⟨Z,Z,Z,Z,Z,Z,Z,Z,Z,Z,Z,Z,Z,Z,U⟩,kq.2 ⟨⟨Z,Z,Z,Z,U⟩,x4j (fun j o hj h=>y8l (lits:=[(50,bxB (f1 i) ⟨bl.Owner,bl.Month,bl.Lines,s⟩ (.row 52 (bl.Lines++ls).length)),(52,.row 90 5 (List.map wh (bl.Lines++ls))),(1,.box none 29 ((yy v1).map .dat)),(2,.opq none (qx wx (EPb f1 O1)))]) Z RRb hj h) (fun j o hj h=>y8k (lits:=[(50,bxB (f1 i) ⟨bl.Owner,bl.Month,bl.Lines,s⟩ (.row 52 (bl.Lines++ls).length)),(52,.row 90 5 (List.map wh (bl.Lines++ls))),(1,.box none 29 ((yy v1).map .dat)),(2,.opq none (qx wx (EPb f1 O1)))]) Z RRb hj h)⟩⟩))
 ·rintro ⟨O,f,hd⟩ H
  unfold z3c at H
  simp only at H
  refine gE H fun hOl H=>bE H fun os hos H=>gE H fun hosl H=>y4i 12 2 y19 rfl rfl (y9f 12 (vmpA wx 4 wg O) (l:=[]) (R:=RR f hd O) [] RRb rfl rfl trivial trivial (y8m (fun j o h=>y37 (lits:=[(2,.opq none (qx wx (EPb f O)))]) rfl RRb h) (fun j o h=>y36 (lits:=[(2,.opq none (qx wx (EPb f O)))]) rfl RRb h)) (by rw [hN]; rfl) (fun g w M M' v he hR hv=>w5c (b:=0) (es := #[]) (cl:=0) (size:=4) (C:=wg) (.inr rfl) (fun _=>rfl) w6x g w M M' v he hR hv) ?_)
  refine zc hN Z (qe Z (zf (zc hN Z (qd Z (za (yb (w23 (u:=vmpA wx 4 wg O) Z) ⟨.inl Z,U⟩) (za (yb (w4d x2t (by rw [List.length_map]; exact hOl) os hos) ⟨.inl Z,U⟩) ?_))))))
  refine za (yu js Z) (qd Z (yd (Qg 23 3 50 4 Z Z Z (ve (fun (k:Nat) (out:List zm)=>[(12,.dat (vmpA wx 4 wg O)),(23,.row 3 out.length),(107,.dat (vlst (List.map yr os))),(108,.dat (vint (os.length:Int))),(109,.dat (vint (k:Int)))]) (fun (k:Nat) (out:List zm)=>[(3,.row 50 4 (List.map wg out))]) [] H ⟨Z,Z,Z,Z,Z,U⟩ ⟨Z,U⟩ (fun _ _=>Z) ?_ ?_))))
  ·rintro out H
   cases H
   refine zc hN Z (za (ye Z Z) (zf (zi _ Z (fun h=>(lt_t h).elim) (fun h => ?_))))
   exact qk (zc hN Z (za (zg (.row _ _) Z) (za (qy (.row _ _) Z) (zn ⟨U,xn Z Z,U⟩))))
  ·rintro k x out q hk0 hx H hq0
   replace H:z57 O x out=some q:=H
   unfold z57 at H
   refine zc hN Z (za (ye Z Z) (zf (zi _ Z (fun h => ?_) (fun h=>(lt_f hk0 h).elim))))
   refine zp (zf (yd (zc hN Z (za (wq Zg (fun _=>Z) Z Z hx) (za (wy tyS9 Z (qg hx) Z) (qe Z (bE H fun bl hbl H=>gE H fun hg H=>zq hN Z (za (zg (.row _ _) Z) (qd Z (qd Z (za (x02 x Ze Z Z Z hg.1 hbl) (za (z3w Z) (za (wo jh Z Z Z) (za (yf (u':=vlst (List.map wg [bl])) (qa [_] y0m ⟨Z,.inr Z,Z,U⟩ Z Z) Z) (zd (je y0m (fun _=>Z) Z Z Z ⟨by simp,by simpa using hg.2⟩ Z) Z ?_)))))))))))))))
   exact za (qy (.row _ _) Z) (zq hN Z (za (wa Z Z (by omega)) (qd Z ⟨_,qj H,⟨Z,Z,Z,Z,Z,U⟩,⟨Z,U⟩⟩)))
end Go.Proofs.YtnnfdgngnoamoaaGreatDoor
