/- Plain models of functions. Printed by a program. -/
import Derived.Test.YthmmalklamiefaaGreatDoorMc
import Derived.Test.YthmmalklamiefaaGreatDoorRng
import Derived.Test.YthmmalklamiefaaGreatDoorMl
namespace Go.Proofs.YthmmalklamiefaaGreatDoor
set_option linter.unusedVariables false
set_option maxRecDepth 20000
structure z0d where
 L:(List Int)
 at_:Int
structure z0r where
 Key:Bs
 Scopes:(List Bs)
structure z02 where
 From:Int
 Cents:Int
structure z0p where
 Key:Bs
 Product:Bs
 Base:Int
 Free:Int
 Tiers:(List z02)
 Limit:Int
 Trial:Int
 Asked:Bool
structure z0i where
 Products:(List z0r)
 Plans:(List z0p)
structure z0s where
 Key:Bs
 Owner:Bs
structure z0f where
 At:Int
 App:Bs
 Product:Bs
 Kind:Int
 Plan:Bs
structure z0o where
 State:Int
 Plan:Bs
 Since:Int
 First:Int
structure z0e where
 App:Bs
 Product:Bs
 Month:Int
 Calls:Int
structure z0u where
 app_:Bs
 product_:Bs
structure z3a where
 subs_:(List (z0u×z0o))
 asks_:(List (z0u×Int))
noncomputable def y0m (x6:Int):Option (Int):=
 some x6
noncomputable def z93 (x1:Int) (n2:Int):Option (Int):=
 if decide (n2 < 1) then some 0 else (if n2≠0 then (if decide ((Int.tmod x1 n2) < 0) then (y0m (wr ((Int.tmod x1 n2)+n2))) else (y0m (Int.tmod x1 n2))) else none)
noncomputable def z2f (s1:z0d) (n2:Int):Option (Int×z0d):=
 if decide ((s1.L.length:Int)=0) then ((z93 (wr ((wr (s1.at_+1)) * 7919)) n2).bind fun (r4:(Int))=>some (r4,(z0d.mk s1.L (wr (s1.at_+1))))) else (if (s1.L.length:Int)≠0 then (if ((0:Int)≤(wr ((wr (s1.at_+1)) - 1))∧(wr ((wr (s1.at_+1)) - 1))≤9223372036854775807)∧(0:Int) < (s1.L.length:Int) then ((at? s1.L (Int.tmod (wr ((wr (s1.at_+1)) - 1)) (s1.L.length:Int))).bind fun (x8:Int)=>(z93 x8 1073741824).bind fun (r10:(Int))=>(z93 (wr (r10+(wr (((wr ((wr (s1.at_+1)) - 1)) / (s1.L.length:Int)) * (wr (7919+(Int.tmod (wr ((wr (s1.at_+1)) - 1)) (s1.L.length:Int)))))))) n2).bind fun (r12:(Int))=>some (r12,(z0d.mk s1.L (wr (s1.at_+1))))) else none) else none)
noncomputable def z4i (s1:z0d) (low2:Int) (high3:Int):Option (Int×z0d):=
 if decide (high3 < low2) then (some (low2,s1)) else ((z2f s1 (wr ((wr (high3 - low2))+1))).bind fun (r5:(Int×z0d))=>some (wr (low2+r5.1),r5.2))
noncomputable def z1q (s1:z0d) (n2:Int):Option (Bool×z0d):=
 (z2f s1 n2).bind fun (r3:(Int×z0d))=>some (decide (r3.1=0),r3.2)
noncomputable def z1i (s1:z0d) (l2:(List Bs)):Option (Bs×z0d):=
 (z2f s1 (l2.length:Int)).bind fun (r3:(Int×z0d))=>(at? l2 r3.1).bind fun (x5:Bs)=>some (x5,r3.2)
noncomputable def z1e (s1:z0d) (l2:(List Int)):Option (Int×z0d):=
 (z2f s1 (l2.length:Int)).bind fun (r3:(Int×z0d))=>(at? l2 r3.1).bind fun (x5:Int)=>some (x5,r3.2)
noncomputable def z2m (s1:z0d) (low2:Int) (high3:Int):Option (Int×z0d):=
 (z1q s1 12).bind fun (r4:(Bool×z0d))=>if r4.1 then ((z1e r4.2 [wr (low2 - 1),wr (high3+1),low2,high3,(-1099511627776),1099511627776]).bind fun (r7:(Int×z0d))=>some (r7.1,r7.2)) else ((z4i r4.2 low2 high3).bind fun (r9:(Int×z0d))=>some (r9.1,r9.2))
noncomputable def z36 (k7:Nat) (c4:(List Int)) (c5:Int) (l6:(List Bs)):Option (((List Int)×Int×(List Bs)) ⊕ ((List Bs)×z0d)):=
 (z1i (z0d.mk c4 c5) ([[97],[97,58,42],[97,58,98],[97,58,98,58,42],[97,58,98,58,99],[98],[98,58,42],[98,58,99],[42]])).bind fun (r11:(Bs×z0d))=>if l6.length+1≤1000000000 then (some (.inl (r11.2.L,r11.2.at_,(l6++[r11.1])))) else none
noncomputable def z40 (c4:(List Int)) (c5:Int) (l6:(List Bs)):Option ((List Bs)×z0d):=
 some (l6,(z0d.mk c4 c5))
noncomputable def z26 (s1:z0d):Option ((List Bs)×z0d):=
 (z4i s1 0 4).bind fun (r2:(Int×z0d))=>if r2.1≤1000000000 then rng (fun (k:Nat) (s:(List Int)×Int×(List Bs))=>z36 k s.1 s.2.1 s.2.2) (fun (s:(List Int)×Int×(List Bs))=>z40 s.1 s.2.1 s.2.2) r2.1.toNat 0 (r2.2.L,r2.2.at_,[]) else none
noncomputable def z71 (s1:z0d):Option (Bs×z0d):=
 (z1q s1 25).bind fun (r2:(Bool×z0d))=>if r2.1 then ((y2m [97,58] 10).bind fun (r5:(Bs))=>if r5.length+[97].length≤1000000000 then ((z1i r2.2 ([[],[97,58,42,58,98],[65],[97,58,58,98],[97,58],[42,42],[97,42],(r5++[97])])).bind fun (r8:(Bs×z0d))=>some (r8.1,r8.2)) else none) else ((z1i r2.2 ([[42],[97],[97,58,42],[97,58,98],[97,58,98,58,42],[97,58,98,58,99],[98],[98,58,42],[98,58,99],[99]])).bind fun (r10:(Bs×z0d))=>some (r10.1,r10.2))
noncomputable def z5p (out17:(List Bs)) (c18:(List Int)) (c19:Int):Option ((List Bs)×z0d):=
 some (out17,(z0d.mk c18 c19))
noncomputable def z4l (out10:(List Bs)) (c11:(List Int)) (c12:Int):Option ((List Bs)×z0d):=
 (z1q (z0d.mk c11 c12) 60).bind fun (r13:(Bool×z0d))=>if r13.1 then (if 51≤1000000000 then (z5p (List.replicate 51 []) r13.2.L r13.2.at_) else none) else (z5p out10 r13.2.L r13.2.at_)
noncomputable def z7g (s1:z0d):Option ((List Bs)×z0d):=
 (z26 s1).bind fun (r2:((List Bs)×z0d))=>(z1q r2.2 6).bind fun (r4:(Bool×z0d))=>if r4.1 then ((z71 r4.2).bind fun (r7:(Bs×z0d))=>if r2.1.length+1≤1000000000 then (z4l (r2.1++[r7.1]) r7.2.L r7.2.at_) else none) else (z4l r2.1 r4.2.L r4.2.at_)
noncomputable def z3x (k34:Nat) (v30:Int) (l31:(List z02)) (c32:(List Int)) (c33:Int):Option ((Int×(List z02)×(List Int)×Int) ⊕ (((List z0p)×(List Int)×Int) ⊕ (z0i×z0d))):=
 (z1e (z0d.mk c32 c33) [0,100,500,1500]).bind fun (r39:(Int×z0d))=>if l31.length+1≤1000000000 then ((z1e r39.2 [1,9,100]).bind fun (r42:(Int×z0d))=>some (.inl (wr (v30+r42.1),(l31++[(z02.mk v30 r39.1)]),r42.2.L,r42.2.at_))) else none
noncomputable def z10 (c44:(List Int)) (c45:Int) (l46:(List z0p)):Option (((List z0p)×(List Int)×Int) ⊕ (z0i×z0d)):=
 some (.inl (l46,c44,c45))
noncomputable def z3z (l4:(List z0p)) (x10:Bs) (r16:(Bs×z0d)) (r18:(Int×z0d)) (r20:(Int×z0d)) (r22:(Int×z0d)) (r24:(Int×z0d)) (r26:(Bool×z0d)) (v30:Int) (l31:(List z02)) (c32:(List Int)) (c33:Int):Option (((List z0p)×(List Int)×Int) ⊕ (z0i×z0d)):=
 if l4.length+1≤1000000000 then (z10 c32 c33 (l4++[(z0p.mk x10 r16.1 r18.1 r20.1 l31 r22.1 r24.1 r26.1)])) else none
noncomputable def z3y (k7:Nat) (x10:Bs) (l4:(List z0p)) (c5:(List Int)) (c6:Int):Option (((List z0p)×(List Int)×Int) ⊕ (z0i×z0d)):=
 (z1q (z0d.mk c5 c6) 5).bind fun (r13:(Bool×z0d))=>if r13.1 then (z10 r13.2.L r13.2.at_ l4) else ((z1i r13.2 ([[115,104,111,112],[115,104,111,112],[109,97,112,115]])).bind fun (r16:(Bs×z0d))=>(z1e r16.2 [0,0,1000,3000,31]).bind fun (r18:(Int×z0d))=>(z1e r18.2 [0,10,100]).bind fun (r20:(Int×z0d))=>(z1e r20.2 [(-1),(-1),0,1000]).bind fun (r22:(Int×z0d))=>(z1e r22.2 [0,0,1,2]).bind fun (r24:(Int×z0d))=>(z1q r24.2 2).bind fun (r26:(Bool×z0d))=>(z1e r26.2 [0,1,2,3]).bind fun (r28:(Int×z0d))=>if r28.1≤1000000000 then rng (fun (k:Nat) (s:Int×(List z02)×(List Int)×Int)=>z3x k s.1 s.2.1 s.2.2.1 s.2.2.2) (fun (s:Int×(List z02)×(List Int)×Int)=>z3z l4 x10 r16 r18 r20 r22 r24 r26 s.1 s.2.1 s.2.2.1 s.2.2.2) r28.1.toNat 0 (1,([]:List z02),r28.2.L,r28.2.at_) else none)
noncomputable def z30 (r2:((List Bs)×z0d)) (l4:(List z0p)) (c5:(List Int)) (c6:Int):Option (z0i×z0d):=
 some ((z0i.mk ([(z0r.mk [109,97,112,115] r2.1),(z0r.mk [115,104,111,112] ([[111,114,100,101,114,115]]))]) l4),(z0d.mk c5 c6))
noncomputable def z3d (s1:z0d):Option (z0i×z0d):=
 (z26 s1).bind fun (r2:((List Bs)×z0d))=>if ([[98,105,103],[102,114,101,101],[109,105,100],[115,109,97,108,108]]).length≤1000000000 then forL (fun (k:Nat) (x:Bs) (s:(List z0p)×(List Int)×Int)=>z3y k x s.1 s.2.1 s.2.2) (fun (s:(List z0p)×(List Int)×Int)=>z30 r2 s.1 s.2.1 s.2.2) 0 ([[98,105,103],[102,114,101,101],[109,105,100],[115,109,97,108,108]]) (([]:List z0p),r2.2.L,r2.2.at_) else none
noncomputable def z9d (c:z0i) (s:z0d):Option (z0i×z0d):=
 (z2f s (c.Plans.length:Int)).bind fun (r13:(Int×z0d))=>(at? c.Plans r13.1).bind fun (x15:z0p)=>(z2f r13.2 6).bind fun (r17:(Int×z0d))=>if decide (r17.1=0) then ((z1i r17.2 ([[],[65],[98,105,103]])).bind fun (r20:(Bs×z0d))=>some ((z0i.mk c.Products (c.Plans.set r13.1.toNat (z0p.mk r20.1 x15.Product x15.Base x15.Free x15.Tiers x15.Limit x15.Trial x15.Asked))),r20.2)) else (if decide (r17.1=1) then ((z1i r17.2 ([[110,111,110,101],[]])).bind fun (r20:(Bs×z0d))=>some ((z0i.mk c.Products (c.Plans.set r13.1.toNat (z0p.mk x15.Key r20.1 x15.Base x15.Free x15.Tiers x15.Limit x15.Trial x15.Asked))),r20.2)) else (if decide (r17.1=2) then ((z2m r17.2 0 1000).bind fun (r20:(Int×z0d))=>(z2m r20.2 0 1000).bind fun (r22:(Int×z0d))=>some ((z0i.mk c.Products (c.Plans.set r13.1.toNat (z0p.mk x15.Key x15.Product r20.1 r22.1 x15.Tiers x15.Limit x15.Trial x15.Asked))),r22.2)) else (if decide (r17.1=3) then ((z2m r17.2 1 100).bind fun (r20:(Int×z0d))=>(z2m r20.2 0 1000000).bind fun (r22:(Int×z0d))=>if x15.Tiers.length+1≤1000000000 then some ((z0i.mk c.Products (c.Plans.set r13.1.toNat (z0p.mk x15.Key x15.Product x15.Base x15.Free (x15.Tiers++[(z02.mk r20.1 r22.1)]) x15.Limit x15.Trial x15.Asked))),r22.2) else none) else (if decide (r17.1=4) then ((z2m r17.2 (-1) 100).bind fun (r20:(Int×z0d))=>(z2m r20.2 0 132).bind fun (r22:(Int×z0d))=>some ((z0i.mk c.Products (c.Plans.set r13.1.toNat (z0p.mk x15.Key x15.Product x15.Base x15.Free x15.Tiers r20.1 r22.1 x15.Asked))),r22.2)) else ((z1i r17.2 ([[122,122],[115,104,111,112],[]])).bind fun (r20:(Bs×z0d))=>(z7g r20.2).bind fun (r22:((List Bs)×z0d))=>if c.Products.length+1≤1000000000 then some ((z0i.mk (c.Products++[(z0r.mk r20.1 r22.1)]) c.Plans),r22.2) else none)))))
noncomputable def z66 (s1:z0d):Option (z0i×z0d):=
 (z3d s1).bind fun (r2:(z0i×z0d))=>if decide ((r2.1.Plans.length:Int) > 0) then ((z1q r2.2 12).bind fun (r6:(Bool×z0d))=>if r6.1 then z9d r2.1 r6.2 else some (r2.1,r6.2)) else some (r2.1,r2.2)
noncomputable def z6d (s1:z0d):Option ((List z0s)×z0d):=
 (z1i s1 ([[97,110,110],[98,111,98]])).bind fun (r2:(Bs×z0d))=>(z1e r2.2 [1,2,3,3]).bind fun (r4:(Int×z0d))=>if (0:Int)≤r4.1∧r4.1≤(([(z0s.mk [97,112,112,49] [97,110,110]),(z0s.mk [97,112,112,50] r2.1),(z0s.mk [97,112,112,51] [98,111,98])]:(List z0s)).length:Int) then (some ((([(z0s.mk [97,112,112,49] [97,110,110]),(z0s.mk [97,112,112,50] r2.1),(z0s.mk [97,112,112,51] [98,111,98])]:(List z0s)).take r4.1.toNat),r4.2)) else none
noncomputable def z6w (out12:(List z0s)) (c13:(List Int)) (c14:Int):Option ((List z0s)×z0d):=
 some (out12,(z0d.mk c13 c14))
noncomputable def z8o (s1:z0d):Option ((List z0s)×z0d):=
 (z6d s1).bind fun (r2:((List z0s)×z0d))=>(z1q r2.2 20).bind fun (r4:(Bool×z0d))=>if r4.1 then ((z1i r4.2 ([[],[97,112,112,49],[122,122]])).bind fun (r7:(Bs×z0d))=>(z1i r7.2 ([[97,110,110],[]])).bind fun (r9:(Bs×z0d))=>if r2.1.length+1≤1000000000 then (z6w (r2.1++[(z0s.mk r7.1 r9.1)]) r9.2.L r9.2.at_) else none) else (z6w r2.1 r4.2.L r4.2.at_)
noncomputable def z35 (i4:Int) (data28:(List z0f)):Option ((Int×(List z0f)) ⊕ ((List z0f))):=
 some (.inl (wr (i4+1),data28))
noncomputable def z27 (i4:Int) (j8:Int) (l9:(List z0f)) (v20:Bool):Option ((Int×(List z0f)) ⊕ ((Int×(List z0f)) ⊕ ((List z0f)))):=
 if v20 then ((at? l9 (wr (j8 - 1))).bind fun (x22:z0f)=>(at? l9 j8).bind fun (x24:z0f)=>(at? (l9.set j8.toNat x22) (wr (j8 - 1))).bind fun (x26:z0f)=>some (.inl (wr (j8 - 1),((l9.set j8.toNat x22).set ((wr (j8 - 1)).toNat) x24)))) else (Option.map .inr (z35 i4 l9))
noncomputable def z5v (a2:Int) (p3:z0f→z0f→Option (Int)) (i4:Int) (j8:Int) (l9:(List z0f)):Option ((Int×(List z0f)) ⊕ ((Int×(List z0f)) ⊕ ((List z0f)))):=
 if decide (a2 < j8) then ((at? l9 j8).bind fun (x13:z0f)=>(at? l9 (wr (j8 - 1))).bind fun (x15:z0f)=>(p3 x13 x15).bind fun (r17:Int)=>z27 i4 j8 l9 (decide (r17 < 0))) else (z27 i4 j8 l9 false)
noncomputable def z5w (a2:Int) (b3:Int) (p3:z0f→z0f→Option (Int)) (i4:Int) (l5:(List z0f)):Option ((Int×(List z0f)) ⊕ ((List z0f))):=
 if decide (i4 < b3) then (iter (fun (s:Int×(List z0f))=>z5v a2 p3 i4 s.1 s.2) (i4,l5)) else (some (.inr l5))
noncomputable def z4a (data1:(List z0f)) (a2:Int) (b3:Int) (p3:z0f→z0f→Option (Int)):Option ((List z0f)):=
 iter (fun (s:Int×(List z0f))=>z5w a2 b3 p3 s.1 s.2) (wr (a2+1),data1)
noncomputable def z5k (blockSize16:Int):Option (Int ⊕ ((List z0f))):=
 some (.inl (wr (blockSize16 * 2)))
noncomputable def z5l (n2:Int) (blockSize16:Int) (a23:Int):Option (Int ⊕ ((List z0f))):=
 if decide ((wr (a23+blockSize16)) < n2) then none else (z5k blockSize16)
noncomputable def z7r (n2:Int) (blockSize16:Int) (a19:Int) (b20:Int):Option ((Int×Int) ⊕ (Int ⊕ ((List z0f)))):=
 if decide (b20≤n2) then none else (Option.map .inr (z5l n2 blockSize16 a19))
noncomputable def z7s (n2:Int) (r13:((List z0f))) (blockSize16:Int):Option (Int ⊕ ((List z0f))):=
 if decide (blockSize16 < n2) then (iter (fun (s:Int×Int)=>z7r n2 blockSize16 s.1 s.2) (0,wr (2 * blockSize16))) else (some (.inr r13))
noncomputable def z5m (n2:Int) (p2:z0f→z0f→Option (Int)) (a11:Int) (data12:(List z0f)):Option ((List z0f)):=
 (z4a data12 a11 n2 p2).bind fun (r13:((List z0f)))=>if r13.length=data12.length then (iter (fun (s:Int)=>z7s n2 r13 s) 20) else none
noncomputable def z7t (n2:Int) (p2:z0f→z0f→Option (Int)) (a3:Int) (b4:Int) (l5:(List z0f)):Option ((Int×Int×(List z0f)) ⊕ ((List z0f))):=
 if decide (b4≤n2) then ((z4a l5 a3 b4 p2).bind fun (r8:((List z0f)))=>if r8.length=l5.length then (some (.inl (b4,wr (b4+20),r8))) else none) else (Option.map .inr (z5m n2 p2 a3 l5))
noncomputable def z5z (data1:(List z0f)) (n2:Int) (p2:z0f→z0f→Option (Int)):Option ((List z0f)):=
 iter (fun (s:Int×Int×(List z0f))=>z7t n2 p2 s.1 s.2.1 s.2.2) (0,20,data1)
noncomputable def z12 (x1:(List z0f)) (p1:z0f→z0f→Option (Int)):Option ((List z0f)):=
 (z5z x1 (x1.length:Int) p1).bind fun (r2:((List z0f)))=>if r2.length=x1.length then some r2 else none
noncomputable def y1u (n1:Int):Option (Int):=
 if decide (n1 < 0) then (some (-1)) else (if decide (0 < n1) then some 1 else some 0)
noncomputable def y0z (x1:Bs):Option (Bool):=
 some (decide (x1≠x1))
noncomputable def z9j (x1:Bs) (y2:Bs):Option (Int):=
 (y0z x1).bind fun (r3:(Bool))=>(y0z y2).bind fun (r5:(Bool))=>if r3 then (if r5 then some 0 else (some (-1))) else (if r5 then some 1 else (if Op.bytesLess x1 y2 then (some (-1)) else (if (!(Op.bytesLess x1 y2 || x1 == y2)) then some 1 else some 0)))
noncomputable def z5n (s2:(List Bs)) (k3:Nat) (x6:Bs):Option (Unit ⊕ (Int)):=
 if decide ((s2.length:Int)≤(k3:Int)) then (some (.inr 1)) else ((s2[k3]?).bind fun (x11:Bs)=>(z9j x6 x11).bind fun (r13:(Int))=>if decide (r13≠0) then (some (.inr r13)) else (some (.inl ())))
noncomputable def z5o (s1:(List Bs)) (s2:(List Bs)):Option (Int):=
 if decide ((s1.length:Int) < (s2.length:Int)) then (some (-1)) else some 0
noncomputable def z2z (s1:(List Bs)) (s2:(List Bs)):Option (Int):=
 if s1.length≤1000000000 then forL (fun (k:Nat) (x:Bs) (s:Unit)=>z5n s2 k x) (fun (s:Unit)=>z5o s1 s2) 0 s1 () else none
noncomputable def z3n (a1:z0f) (b2:z0f):Option (Int):=
 if decide (a1.At≠b2.At) then ((y1u (wr (a1.At - b2.At))).bind fun (r4:(Int))=>some r4) else ((z2z [a1.App,a1.Product] [b2.App,b2.Product]).bind fun (r6:(Int))=>some r6)
noncomputable def z2w (v15:Int) (v28:Int) (v29:(List z0f)):Option ((Int×Int×(List z0f)) ⊕ (Int ⊕ ((List z0f)))):=
 some (.inl (v28,wr (v15+1),v29))
noncomputable def z3i (v30:Int) (v31:(List z0f)):Option (Int ⊕ ((List z0f))):=
 if (0:Int)≤v30∧v30 < (v31.length:Int) then (if (0:Int)≤v30∧v30≤((v31.take v30.toNat++List.replicate (v31.length - v30.toNat) (z0f.mk 0 [] [] 0 [])).length:Int) then (some (.inr ((v31.take v30.toNat++List.replicate (v31.length - v30.toNat) (z0f.mk 0 [] [] 0 [])).take v30.toNat))) else none) else none
noncomputable def z4w (p1:z0f→z0f→Option (Bool)) (v3:Int) (v14:Int) (v15:Int) (l16:(List z0f)):Option ((Int×Int×(List z0f)) ⊕ (Int ⊕ ((List z0f)))):=
 if decide (v15 < ((l16.drop v3.toNat).length:Int)) then ((at? (l16.drop v3.toNat) v15).bind fun (x19:z0f)=>(at? (l16.drop v3.toNat) (wr (v15 - 1))).bind fun (x21:z0f)=>(p1 x19 x21).bind fun (r23:Bool)=>if !r23 then ((at? l16 v14).bind fun (x26:z0f)=>z2w v15 (wr (v14+1)) (l16.set v14.toNat x19)) else (z2w v15 v14 l16)) else (Option.map .inr (z3i v14 l16))
noncomputable def z3j (v1:(List z0f)):Option ((List z0f)):=
 some v1
noncomputable def z4x (v1:(List z0f)) (p1:z0f→z0f→Option (Bool)) (v3:Int):Option (Int ⊕ ((List z0f))):=
 if decide (v3 < (v1.length:Int)) then ((at? v1 v3).bind fun (x6:z0f)=>(at? v1 (wr (v3 - 1))).bind fun (x8:z0f)=>(p1 x6 x8).bind fun (r10:Bool)=>if r10 then (if (0:Int)≤v3∧v3 < (v1.length:Int) then (iter (fun (s:Int×Int×(List z0f))=>z4w p1 v3 s.1 s.2.1 s.2.2) (v3,1,v1)) else none) else (some (.inl (wr (v3+1))))) else (Option.map .inr (z3j v1))
noncomputable def z47 (v1:(List z0f)) (p1:z0f→z0f→Option (Bool)):Option ((List z0f)):=
 if decide ((v1.length:Int) < 2) then some v1 else (iter (fun (s:Int)=>z4x v1 p1 s) 1)
noncomputable def z6x (a1:z0f) (b2:z0f):Option (Bool):=
 (z3n a1 b2).bind fun (r3:(Int))=>some (decide (r3=0))
noncomputable def z4h (n1:Int) (low2:Int) (high3:Int):Option (Bool):=
 some ((decide (low2≤n1)) && (decide (n1≤high3)))
noncomputable def y36 (some2:Bs) (k3:Nat) (x6:UInt8):Option (Unit ⊕ (Bool)):=
 (y4d some2 (x6.toNat:Int)).bind fun (r9:(Int))=>if decide (r9 < 0) then (some (.inr false)) else (some (.inl ()))
noncomputable def y5t:Option (Bool):=
 some true
noncomputable def y1v (s1:Bs) (some2:Bs):Option (Bool):=
 if s1.length≤1000000000 then forL (fun (k:Nat) (x:UInt8) (s:Unit)=>y36 some2 k x) (fun (s:Unit)=>y5t) 0 s1 () else none
noncomputable def y02 (v16:Bool):Option (Bool):=
 some v16
noncomputable def z87 (s1:Bs):Option (Bool):=
 (z4h (s1.length:Int) 1 40).bind fun (r2:(Bool))=>if r2 then ((sub? s1 0 1).bind fun (l6:Bs)=>(y1v l6 [97,98,99,100,101,102,103,104,105,106,107,108,109,110,111,112,113,114,115,116,117,118,119,120,121,122]).bind fun (r8:(Bool))=>if r8 then ((y1v s1 [97,98,99,100,101,102,103,104,105,106,107,108,109,110,111,112,113,114,115,116,117,118,119,120,121,122,48,49,50,51,52,53,54,55,56,57,45,95]).bind fun (r12:(Bool))=>y02 r12) else (y02 false)) else (y02 false)
noncomputable def z4r (p1:z0r→Option (Bool)) (k2:Nat) (x5:z0r):Option (Unit ⊕ (Int)):=
 (p1 x5).bind fun (r8:Bool)=>if r8 then (some (.inr (k2:Int))) else (some (.inl ()))
noncomputable def z4s:Option (Int):=
 some (-1)
noncomputable def z3f (s1:(List z0r)) (p1:z0r→Option (Bool)):Option (Int):=
 if s1.length≤1000000000 then forL (fun (k:Nat) (x:z0r) (s:Unit)=>z4r p1 k x) (fun (s:Unit)=>z4s) 0 s1 () else none
noncomputable def z63 (p1:z0r) (c2:Bs):Option (Bool):=
 some (decide (p1.Key=c2))
noncomputable def z5t (c1:z0i) (key2:Bs):Option (Int):=
 (z3f c1.Products (fun (a0:z0r)=>z63 a0 key2)).bind fun (r3:(Int))=>some r3
noncomputable def z7j (v34:Bool):Option (Int):=
 if v34 then some 1 else some 0
noncomputable def z6e (v2:z0p) (v25:Bool):Option (Int):=
 if v25 then some 3 else ((z4h v2.Limit (-1) 1000000000000).bind fun (r27:(Bool))=>if !r27 then (z7j true) else ((z4h v2.Trial 0 132).bind fun (r31:(Bool))=>z7j (!r31)))
noncomputable def z9o (v52:Bool):Option (Unit ⊕ (Int)):=
 if v52 then (some (.inr 7)) else (some (.inl ()))
noncomputable def z7i (v2:z0p) (k16:Nat) (x19:z02) (v45:Bool):Option (Unit ⊕ (Int)):=
 if v45 then (some (.inr 1)) else (if decide (0 < (k16:Int)) then ((at? v2.Tiers ((k16:Int) - 1)).bind fun (x49:z02)=>z9o (decide (x19.From≤x49.From))) else (z9o false))
noncomputable def z9n (v2:z0p) (k16:Nat) (x19:z02):Option (Unit ⊕ (Int)):=
 (z4h x19.From 1 1000000000000).bind fun (r38:(Bool))=>if !r38 then (z7i v2 k16 x19 true) else ((z4h x19.Cents 0 1000000).bind fun (r42:(Bool))=>z7i v2 k16 x19 (!r42))
noncomputable def z9p (v2:z0p):Option (Int):=
 if decide (0 < (v2.Tiers.length:Int)) then ((v2.Tiers[0]?).bind fun (x22:z02)=>z6e v2 (decide (x22.From≠1))) else (z6e v2 false)
noncomputable def z4z (v2:z0p) (v13:Bool):Option (Int):=
 if v13 then some 1 else (if decide (20 < (v2.Tiers.length:Int)) then some 2 else (if v2.Tiers.length≤1000000000 then forL (fun (k:Nat) (x:z02) (s:Unit)=>z9n v2 k x) (fun (s:Unit)=>z9p v2) 0 v2.Tiers () else none))
noncomputable def z97 (v1:z0i) (v2:z0p):Option (Int):=
 (z5t v1 v2.Product).bind fun (r3:(Int))=>if decide (r3 < 0) then some 8 else ((z4h v2.Base 0 1000000000000).bind fun (r6:(Bool))=>if !r6 then (z4z v2 true) else ((z4h v2.Free 0 1000000000000).bind fun (r10:(Bool))=>z4z v2 (!r10)))
noncomputable def y3n (r2:((List Bs))) (k4:Nat) (x7:Bs):Option (Unit ⊕ (Bool)):=
 (z87 x7).bind fun (r10:(Bool))=>if ((!r10) && ((decide (x7≠[42])) || (decide ((k4:Int) < (wr ((r2.length:Int) - 1)))))) then (some (.inr false)) else (some (.inl ()))
noncomputable def y5b (r2:((List Bs))):Option (Bool):=
 some (decide ((r2.length:Int)≤10))
noncomputable def y2o (s1:Bs):Option (Bool):=
 (z9g s1 [58]).bind fun (r2:((List Bs)))=>if r2.length≤1000000000 then forL (fun (k:Nat) (x:Bs) (s:Unit)=>y3n r2 k x) (fun (s:Unit)=>y5b r2) 0 r2 () else none
noncomputable def y0f (k3:Nat) (x6:Bs):Option (Unit ⊕ (Int)):=
 (y2o x6).bind fun (r9:(Bool))=>if !r9 then (some (.inr 3)) else (some (.inl ()))
noncomputable def y2i:Option (Int):=
 some 0
noncomputable def z8m (l1:(List Bs)):Option (Int):=
 if decide (50 < (l1.length:Int)) then some 2 else (if l1.length≤1000000000 then forL (fun (k:Nat) (x:Bs) (s:Unit)=>y0f k x) (fun (s:Unit)=>y2i) 0 l1 () else none)
noncomputable def z9z (v1:z0i) (k10:Nat) (x13:z0p) (v9:Bs):Option (Bs ⊕ (Int)):=
 (z87 x13.Key).bind fun (r16:(Bool))=>if !r16 then (some (.inr 5)) else (if (Op.bytesLess x13.Key v9 || x13.Key == v9) then (some (.inr 7)) else ((z97 v1 x13).bind fun (r20:(Int))=>if decide (r20≠0) then (some (.inr r20)) else (some (.inl x13.Key))))
noncomputable def z91 (v9:Bs):Option (Int):=
 some 0
noncomputable def z90 (k4:Nat) (x7:z0r) (v3:Bs):Option (Bs ⊕ (Int)):=
 (z87 x7.Key).bind fun (r25:(Bool))=>if !r25 then (some (.inr 5)) else (if (Op.bytesLess x7.Key v3 || x7.Key == v3) then (some (.inr 7)) else ((z8m x7.Scopes).bind fun (r29:(Int))=>if decide (r29≠0) then (some (.inr r29)) else (some (.inl x7.Key))))
noncomputable def z56 (v1:z0i) (v3:Bs):Option (Int):=
 if decide (100 < (v1.Plans.length:Int)) then some 2 else (if v1.Plans.length≤1000000000 then forL (fun (k:Nat) (x:z0p) (s:Bs)=>z9z v1 k x s) (fun (s:Bs)=>z91 s) 0 v1.Plans [] else none)
noncomputable def z6s (v1:z0i):Option (Int):=
 if decide (100 < (v1.Products.length:Int)) then some 2 else (if v1.Products.length≤1000000000 then forL (fun (k:Nat) (x:z0r) (s:Bs)=>z90 k x s) (fun (s:Bs)=>z56 v1 s) 0 v1.Products [] else none)
noncomputable def z9h  : Option (z0o):=
 some (z0o.mk 0 [] 0 (-1))
noncomputable def z54 (p1:z0p→Option (Bool)) (k2:Nat) (x5:z0p):Option (Unit ⊕ (Int)):=
 (p1 x5).bind fun (r8:Bool)=>if r8 then (some (.inr (k2:Int))) else (some (.inl ()))
noncomputable def z55:Option (Int):=
 some (-1)
noncomputable def z4g (s1:(List z0p)) (p1:z0p→Option (Bool)):Option (Int):=
 if s1.length≤1000000000 then forL (fun (k:Nat) (x:z0p) (s:Unit)=>z54 p1 k x) (fun (s:Unit)=>z55) 0 s1 () else none
noncomputable def z8w (p1:z0p) (c2:Bs):Option (Bool):=
 some (decide (p1.Key=c2))
noncomputable def z3v (c1:z0i) (key2:Bs):Option (Int):=
 (z4g c1.Plans (fun (a0:z0p)=>z8w a0 key2)).bind fun (r3:(Int))=>some r3
noncomputable def z3w (v3:z0f) (c38:Int) (c39:Bs) (c40:Int):Option (z0o×Bool):=
 some ((z0o.mk c38 c39 v3.At c40),true)
noncomputable def z81 (v2:z0o) (v3:z0f) (v25:Bool):Option (z0o×Bool):=
 if v25 then (some (v2,false)) else (z3w v3 v2.State v3.Plan v2.First)
noncomputable def z80 (v2:z0o) (v3:z0f) (v36:Bool):Option (z0o×Bool):=
 if v36 then (z3w v3 4 v2.Plan v2.First) else (some (v2,false))
noncomputable def z82 (v1:z0i) (v2:z0o) (v3:z0f) (v9:Bool):Option (z0o×Bool):=
 if v9 then (some (v2,false)) else (if ((decide (v3.Kind=1)) && ((decide (v2.State=0)) || (decide (v2.State=4)))) then ((z3v v1 v3.Plan).bind fun (r12:(Int))=>(at? v1.Plans r12).bind fun (x14:z0p)=>if !x14.Asked then (z3w v3 2 v3.Plan v3.At) else (z3w v3 1 v3.Plan (-1))) else (if ((decide (v3.Kind=1)) && ((decide (v2.State=2)) || (decide (v2.State=3)))) then (if decide (v3.Plan=v2.Plan) then (z81 v2 v3 true) else ((z3v v1 v3.Plan).bind fun (r20:(Int))=>(at? v1.Plans r20).bind fun (x22:z0p)=>z81 v2 v3 x22.Asked)) else (if ((decide (v3.Kind=2)) && (decide (v2.State=1))) then (z3w v3 2 v2.Plan v3.At) else (if ((decide (v3.Kind=3)) && (decide (v2.State=1))) then (z3w v3 4 v2.Plan v2.First) else (if ((decide (v3.Kind=4)) && (decide (v2.State=2))) then (z3w v3 3 v2.Plan v2.First) else (if ((decide (v3.Kind=5)) && (decide (v2.State=3))) then (z3w v3 2 v2.Plan v2.First) else (if decide (v3.Kind=6) then ((z4h v2.State 1 3).bind fun (r33:(Bool))=>z80 v2 v3 r33) else (z80 v2 v3 false))))))))
noncomputable def z8i (v1:z0i) (v2:z0o) (v3:z0f):Option (z0o×Bool):=
 if decide (v3.Kind=1) then ((z3v v1 v3.Plan).bind fun (r6:(Int))=>z82 v1 v2 v3 (decide (r6 < 0))) else (z82 v1 v2 v3 false)
noncomputable def z8b (out23:(List z0o)) (refused24:(List Int)):Option (((List z0o)×(List Int)) ⊕ ((List z0o)×(List Int))):=
 some (.inl (out23,refused24))
noncomputable def z8a (c1:z0i) (app3:Bs) (product4:Bs) (k9:Nat) (x12:z0f) (l7:(List z0o)) (l8:(List Int)):Option (((List z0o)×(List Int)) ⊕ ((List z0o)×(List Int))):=
 if ((decide (x12.App≠app3)) || (decide (x12.Product≠product4))) then (z8b l7 l8) else ((at? l7 (wr ((l7.length:Int) - 1))).bind fun (x16:z0o)=>(z8i c1 x16 x12).bind fun (r18:(z0o×Bool))=>if r18.2 then (if l7.length+1≤1000000000 then (z8b (l7++[r18.1]) l8) else none) else (if l8.length+1≤1000000000 then (z8b l7 (l8++[(k9:Int)])) else none))
noncomputable def z9y (l7:(List z0o)) (l8:(List Int)):Option ((List z0o)×(List Int)):=
 some (l7,l8)
noncomputable def y1y (c1:z0i) (l2:(List z0f)) (app3:Bs) (product4:Bs):Option ((List z0o)×(List Int)):=
 (z9h ).bind fun (r5:(z0o))=>if l2.length≤1000000000 then forL (fun (k:Nat) (x:z0f) (s:(List z0o)×(List Int))=>z8a c1 app3 product4 k x s.1 s.2) (fun (s:(List z0o)×(List Int))=>z9y s.1 s.2) 0 l2 (([r5]:(List z0o)),[]) else none
noncomputable def z4v (s1:z0d):Option (Bs×z0d):=
 (z1i s1 ([[97,112,112,49],[97,112,112,49],[97,112,112,49],[97,112,112,50],[97,112,112,51],[110,111,110,101]])).bind fun (r2:(Bs×z0d))=>some (r2.1,r2.2)
noncomputable def z3m (s1:z0d):Option (Bs×z0d):=
 (z1i s1 ([[115,104,111,112],[115,104,111,112],[115,104,111,112],[109,97,112,115],[110,111,110,101]])).bind fun (r2:(Bs×z0d))=>some (r2.1,r2.2)
noncomputable def z6g (out23:(List z0o)) (refused24:(List Int)):Option (((List z0o)×(List Int)) ⊕ ((List z0o)×(List Int))):=
 some (.inl (out23,refused24))
noncomputable def y1c (c1:z0i) (app3:Bs) (product4:Bs) (k9:Nat) (x12:z0f) (l7:(List z0o)) (l8:(List Int)):Option (((List z0o)×(List Int)) ⊕ ((List z0o)×(List Int))):=
 if ((decide (x12.App≠app3)) || (decide (x12.Product≠product4))) then (z6g l7 l8) else ((at? l7 (wr ((l7.length:Int) - 1))).bind fun (x16:z0o)=>(z8i c1 x16 x12).bind fun (r18:(z0o×Bool))=>if r18.2 then (if l7.length+1≤1000000000 then (z6g (l7++[r18.1]) l8) else none) else (if l8.length+1≤1000000000 then (z6g l7 (l8++[(k9:Int)])) else none))
noncomputable def y1d (l7:(List z0o)) (l8:(List Int)):Option ((List z0o)×(List Int)):=
 some (l7,l8)
noncomputable def z98 (c1:z0i) (l2:(List z0f)) (app3:Bs) (product4:Bs):Option ((List z0o)×(List Int)):=
 (z9h ).bind fun (r5:(z0o))=>if l2.length≤1000000000 then forL (fun (k:Nat) (x:z0f) (s:(List z0o)×(List Int))=>y1c c1 app3 product4 k x s.1 s.2) (fun (s:(List z0o)×(List Int))=>y1d s.1 s.2) 0 l2 (([r5]:(List z0o)),[]) else none
noncomputable def z42 (v117:(List Bs)):Option ((List Bs) ⊕ ((Int×(List Int)×Int×(List z0f)) ⊕ ((List z0f)×z0d))):=
 some (.inl v117)
noncomputable def z89 (r25:(Bs×z0d)) (k46:Nat) (x49:z0p) (l45:(List Bs)):Option ((List Bs) ⊕ ((Int×(List Int)×Int×(List z0f)) ⊕ ((List z0f)×z0d))):=
 if decide (x49.Product=r25.1) then (if l45.length+1≤1000000000 then (z42 (l45++[x49.Key])) else none) else (z42 l45)
noncomputable def z3r (v118:Int) (v119:(List z0f)) (c120:(List Int)) (c121:Int):Option ((Int×(List Int)×Int×(List z0f)) ⊕ ((List z0f)×z0d)):=
 some (.inl (v118,c120,c121,v119))
noncomputable def z2o (v5:Int) (l8:(List z0f)) (r21:(Int×z0d)) (c105:(List Int)) (c106:Int) (c107:Int) (c108:Bs) (c109:Bs) (c110:Int) (c111:Bs):Option ((Int×(List Int)×Int×(List z0f)) ⊕ ((List z0f)×z0d)):=
 if l8.length+1≤1000000000 then (z3r (wr (v5+r21.1)) (l8++[(z0f.mk c107 c108 c109 c110 c111)]) c105 c106) else none
noncomputable def z4m (v5:Int) (l8:(List z0f)) (r21:(Int×z0d)) (r25:(Bs×z0d)) (c44:Bs) (c76:Int) (c83:(List Int)) (c84:Int) (c85:Bs):Option ((Int×(List Int)×Int×(List z0f)) ⊕ ((List z0f)×z0d)):=
 (z1q (z0d.mk c83 c84) 60).bind fun (r86:(Bool×z0d))=>if r86.1 then ((z2f r86.2 5).bind fun (r89:(Int×z0d))=>if decide (r89.1=0) then ((z4v r89.2).bind fun (r92:(Bs×z0d))=>z2o v5 l8 r21 r92.2.L r92.2.at_ (wr (v5+r21.1)) r92.1 r25.1 c76 c85) else (if decide (r89.1=1) then ((z3m r89.2).bind fun (r95:(Bs×z0d))=>z2o v5 l8 r21 r95.2.L r95.2.at_ (wr (v5+r21.1)) c44 r95.1 c76 c85) else (if decide (r89.1=2) then ((z2m r89.2 1 6).bind fun (r98:(Int×z0d))=>z2o v5 l8 r21 r98.2.L r98.2.at_ (wr (v5+r21.1)) c44 r25.1 r98.1 c85) else (if decide (r89.1=3) then ((z1i r89.2 ([[98,105,103],[110,111,110,101],[]])).bind fun (r101:(Bs×z0d))=>z2o v5 l8 r21 r101.2.L r101.2.at_ (wr (v5+r21.1)) c44 r25.1 c76 r101.1) else ((z2m r89.2 0 1000).bind fun (r103:(Int×z0d))=>z2o v5 l8 r21 r103.2.L r103.2.at_ r103.1 c44 r25.1 c76 c85))))) else (z2o v5 l8 r21 r86.2.L r86.2.at_ (wr (v5+r21.1)) c44 r25.1 c76 c85)
noncomputable def z2p (v5:Int) (l8:(List z0f)) (r21:(Int×z0d)) (r25:(Bs×z0d)) (c44:Bs) (l45:(List Bs)) (c74:(List Int)) (c75:Int) (c76:Int):Option ((Int×(List Int)×Int×(List z0f)) ⊕ ((List z0f)×z0d)):=
 if decide (c76=1) then (if decide ((l45.length:Int)=0) then (z3r (wr (v5+r21.1)) l8 c74 c75) else ((z2f (z0d.mk c74 c75) (l45.length:Int)).bind fun (r79:(Int×z0d))=>(at? l45 r79.1).bind fun (x81:Bs)=>z4m v5 l8 r21 r25 c44 c76 r79.2.L r79.2.at_ x81)) else (z4m v5 l8 r21 r25 c44 c76 c74 c75 [])
noncomputable def z3p (v2:z0i) (v5:Int) (l8:(List z0f)) (r21:(Int×z0d)) (r25:(Bs×z0d)) (r27:(Int×z0d)) (c44:Bs) (l45:(List Bs)) (v57:Bool) (c58:(List Int)) (c59:Int):Option ((Int×(List Int)×Int×(List z0f)) ⊕ ((List z0f)×z0d)):=
 if v57 then ((z98 v2 l8 c44 r25.1).bind fun (r61:((List z0o)×(List Int)))=>(at? r61.1 (wr ((r61.1.length:Int) - 1))).bind fun (x63:z0o)=>if decide (x63.State=1) then ((z1e (z0d.mk c58 c59) [2,2,3]).bind fun (r66:(Int×z0d))=>z2p v5 l8 r21 r25 c44 l45 r66.2.L r66.2.at_ r66.1) else (if decide (x63.State=2) then ((z1e (z0d.mk c58 c59) [4,6,1]).bind fun (r69:(Int×z0d))=>z2p v5 l8 r21 r25 c44 l45 r69.2.L r69.2.at_ r69.1) else (if decide (x63.State=3) then ((z1e (z0d.mk c58 c59) [5,6]).bind fun (r72:(Int×z0d))=>z2p v5 l8 r21 r25 c44 l45 r72.2.L r72.2.at_ r72.1) else (z2p v5 l8 r21 r25 c44 l45 c58 c59 1)))) else (z2p v5 l8 r21 r25 c44 l45 c58 c59 r27.1)
noncomputable def z9b (v2:z0i) (v5:Int) (l8:(List z0f)) (r21:(Int×z0d)) (r25:(Bs×z0d)) (r27:(Int×z0d)) (c42:(List Int)) (c43:Int) (c44:Bs) (l45:(List Bs)):Option ((Int×(List Int)×Int×(List z0f)) ⊕ ((List z0f)×z0d)):=
 (z1q (z0d.mk c42 c43) 4).bind fun (r50:(Bool×z0d))=>if !r50.1 then ((z6s v2).bind fun (r54:(Int))=>z3p v2 v5 l8 r21 r25 r27 c44 l45 (decide (r54=0)) r50.2.L r50.2.at_) else (z3p v2 v5 l8 r21 r25 r27 c44 l45 false r50.2.L r50.2.at_)
noncomputable def z3q (v2:z0i) (v5:Int) (l8:(List z0f)) (r21:(Int×z0d)) (r25:(Bs×z0d)) (r27:(Int×z0d)) (c42:(List Int)) (c43:Int) (c44:Bs):Option ((Int×(List Int)×Int×(List z0f)) ⊕ ((List z0f)×z0d)):=
 if v2.Plans.length≤1000000000 then forL (fun (k:Nat) (x:z0p) (s:(List Bs))=>z89 r25 k x s) (fun (s:(List Bs))=>z9b v2 v5 l8 r21 r25 r27 c42 c43 c44 s) 0 v2.Plans [] else none
noncomputable def z5q (v2:z0i) (v3:(List z0s)) (v5:Int) (l8:(List z0f)) (r21:(Int×z0d)) (r23:(Bs×z0d)) (r25:(Bs×z0d)) (r27:(Int×z0d)) (v34:Bool) (c35:(List Int)) (c36:Int):Option ((Int×(List Int)×Int×(List z0f)) ⊕ ((List z0f)×z0d)):=
 if v34 then ((z2f (z0d.mk c35 c36) (v3.length:Int)).bind fun (r38:(Int×z0d))=>(at? v3 r38.1).bind fun (x40:z0s)=>z3q v2 v5 l8 r21 r25 r27 r38.2.L r38.2.at_ x40.Key) else (z3q v2 v5 l8 r21 r25 r27 c35 c36 r23.1)
noncomputable def z9a (v2:z0i) (v3:(List z0s)) (k9:Nat) (v5:Int) (c6:(List Int)) (c7:Int) (l8:(List z0f)):Option ((Int×(List Int)×Int×(List z0f)) ⊕ ((List z0f)×z0d)):=
 (z1e (z0d.mk c6 c7) [1,5,86400000,864000000,2592000000,wr (2592000000 - (Int.tmod v5 2592000000))]).bind fun (r21:(Int×z0d))=>(z1i r21.2 ([[97,112,112,49],[97,112,112,49],[97,112,112,50]])).bind fun (r23:(Bs×z0d))=>(z1i r23.2 ([[115,104,111,112],[115,104,111,112],[109,97,112,115]])).bind fun (r25:(Bs×z0d))=>(z4i r25.2 1 6).bind fun (r27:(Int×z0d))=>if decide (0 < (v3.length:Int)) then ((z1q r27.2 3).bind fun (r31:(Bool×z0d))=>z5q v2 v3 v5 l8 r21 r23 r25 r27 r31.1 r31.2.L r31.2.at_) else (z5q v2 v3 v5 l8 r21 r23 r25 r27 false r27.2.L r27.2.at_)
noncomputable def z9c (v5:Int) (c6:(List Int)) (c7:Int) (l8:(List z0f)):Option ((List z0f)×z0d):=
 (z12 l8 (fun (a0:z0f) (a1:z0f)=>z3n a0 a1)).bind fun (r12:((List z0f)))=>if r12.length=l8.length then ((z1q (z0d.mk c6 c7) 60).bind fun (r15:(Bool×z0d))=>if r15.1 then (some (r12,r15.2)) else ((z47 r12 (fun (a0:z0f) (a1:z0f)=>z6x a0 a1)).bind fun (r18:((List z0f)))=>some (r18,r15.2))) else none
noncomputable def z7h (s1:z0d) (v2:z0i) (v3:(List z0s)) (v4:Int):Option ((List z0f)×z0d):=
 if v4≤1000000000 then rng (fun (k:Nat) (s:Int×(List Int)×Int×(List z0f))=>z9a v2 v3 k s.1 s.2.1 s.2.2.1 s.2.2.2) (fun (s:Int×(List Int)×Int×(List z0f))=>z9c s.1 s.2.1 s.2.2.1 s.2.2.2) v4.toNat 0 (0,s1.L,s1.at_,[]) else none
noncomputable def z7m (last3:Bs) (x7:z0s) (v17:Bool):Option (Bs ⊕ (Int)):=
 if v17 then (some (.inr 5)) else (if (Op.bytesLess x7.Key last3 || x7.Key == last3) then (some (.inr 7)) else (some (.inl x7.Key)))
noncomputable def y1e (k4:Nat) (x7:z0s) (last3:Bs):Option (Bs ⊕ (Int)):=
 (z87 x7.Key).bind fun (r10:(Bool))=>if !r10 then (z7m last3 x7 true) else ((z87 x7.Owner).bind fun (r14:(Bool))=>z7m last3 x7 (!r14))
noncomputable def y1f (last3:Bs):Option (Int):=
 some 0
noncomputable def z99 (l1:(List z0s)):Option (Int):=
 if decide (500 < (l1.length:Int)) then some 2 else (if l1.length≤1000000000 then forL (fun (k:Nat) (x:z0s) (s:Bs)=>y1e k x s) (fun (s:Bs)=>y1f s) 0 l1 [] else none)
noncomputable def y1w (c1:z0i) (apps2:(List z0s)):Option (Int):=
 (z6s c1).bind fun (r3:(Int))=>if decide (r3≠0) then some r3 else ((z99 apps2).bind fun (r6:(Int))=>some r6)
noncomputable def y1z (v1:Int):Option (Bool):=
 (z4h v1 0 345686399999).bind fun (r2:(Bool))=>some r2
noncomputable def z6o (p1:z0s→Option (Bool)) (k2:Nat) (x5:z0s):Option (Unit ⊕ (Int)):=
 (p1 x5).bind fun (r8:Bool)=>if r8 then (some (.inr (k2:Int))) else (some (.inl ()))
noncomputable def z6p:Option (Int):=
 some (-1)
noncomputable def z4t (s1:(List z0s)) (p1:z0s→Option (Bool)):Option (Int):=
 if s1.length≤1000000000 then forL (fun (k:Nat) (x:z0s) (s:Unit)=>z6o p1 k x) (fun (s:Unit)=>z6p) 0 s1 () else none
noncomputable def z9w (a1:z0s) (c2:Bs):Option (Bool):=
 some (decide (a1.Key=c2))
noncomputable def z92 (l1:(List z0s)) (key2:Bs):Option (Int):=
 (z4t l1 (fun (a0:z0s)=>z9w a0 key2)).bind fun (r3:(Int))=>some r3
noncomputable def z6t (v47:Bool):Option (Unit ⊕ (Int)):=
 if v47 then (some (.inr 7)) else (some (.inl ()))
noncomputable def z48 (v3:(List z0f)) (k8:Nat) (x11:z0f) (v38:Bool):Option (Unit ⊕ (Int)):=
 if v38 then (some (.inr 16)) else (if decide (0 < (k8:Int)) then ((at? v3 ((k8:Int) - 1)).bind fun (x42:z0f)=>(z3n x42 x11).bind fun (r44:(Int))=>z6t (decide (0≤r44))) else (z6t false))
noncomputable def z6u (v1:z0i) (v3:(List z0f)) (k8:Nat) (x11:z0f) (r14:(Int)) (v26:Bool):Option (Unit ⊕ (Int)):=
 if v26 then (some (.inr 8)) else ((z4h x11.Kind 1 6).bind fun (r28:(Bool))=>if !r28 then (some (.inr 4)) else (if ((!(decide (x11.Kind=1))) && (decide (x11.Plan≠[]))) then (some (.inr 3)) else (if ((decide (x11.Kind=1)) && (decide (r14 < 0))) then (some (.inr 8)) else (if decide (x11.Kind=1) then ((at? v1.Plans r14).bind fun (x35:z0p)=>z48 v3 k8 x11 (decide (x35.Product≠x11.Product))) else (z48 v3 k8 x11 false)))))
noncomputable def z8c (v1:z0i) (v2:(List z0s)) (v3:(List z0f)) (k8:Nat) (x11:z0f):Option (Unit ⊕ (Int)):=
 (z3v v1 x11.Plan).bind fun (r14:(Int))=>(y1z x11.At).bind fun (r16:(Bool))=>if !r16 then (some (.inr 1)) else ((z92 v2 x11.App).bind fun (r19:(Int))=>if decide (r19 < 0) then (z6u v1 v3 k8 x11 r14 true) else ((z5t v1 x11.Product).bind fun (r23:(Int))=>z6u v1 v3 k8 x11 r14 (decide (r23 < 0))))
noncomputable def y2j:Option (Int):=
 some 0
noncomputable def z8n (v1:z0i) (v2:(List z0s)) (v3:(List z0f)):Option (Int):=
 (y1w v1 v2).bind fun (r4:(Int))=>if decide (r4≠0) then some r4 else (if decide (1000 < (v3.length:Int)) then some 2 else (if v3.length≤1000000000 then forL (fun (k:Nat) (x:z0f) (s:Unit)=>z8c v1 v2 v3 k x) (fun (s:Unit)=>y2j) 0 v3 () else none))
noncomputable def y12 (s1:z0d) (many2:Int):Option (z0i×(List z0s)×(List z0f)×Int×z0d):=
 (z66 s1).bind fun (r3:(z0i×z0d))=>(z8o r3.2).bind fun (r5:((List z0s)×z0d))=>(z7h r5.2 r3.1 r5.1 many2).bind fun (r7:((List z0f)×z0d))=>(z8n r3.1 r5.1 r7.1).bind fun (r9:(Int))=>some (r3.1,r5.1,r7.1,r9,r7.2)
noncomputable def z4n (out34:(List z0e)) (c35:(List Int)) (c36:Int):Option (((List Int)×Int×(List z0e)) ⊕ (((List Int)×Int×(List z0e)) ⊕ (((List Int)×Int×(List z0e)) ⊕ ((List z0e)×z0d)))):=
 some (.inl (c35,c36,out34))
noncomputable def z7n (k6:Nat) (x16:z0s) (k22:Nat) (x25:Bs) (c19:(List Int)) (c20:Int) (l21:(List z0e)):Option (((List Int)×Int×(List z0e)) ⊕ (((List Int)×Int×(List z0e)) ⊕ (((List Int)×Int×(List z0e)) ⊕ ((List z0e)×z0d)))):=
 (z1q (z0d.mk c19 c20) 2).bind fun (r28:(Bool×z0d))=>if r28.1 then ((z1e r28.2 [0,5,10,11,100,150,1000]).bind fun (r31:(Int×z0d))=>if l21.length+1≤1000000000 then (z4n (l21++[(z0e.mk x16.Key x25 (k6:Int) r31.1)]) r31.2.L r31.2.at_) else none) else (z4n l21 r28.2.L r28.2.at_)
noncomputable def y0g (c19:(List Int)) (c20:Int) (l21:(List z0e)):Option (((List Int)×Int×(List z0e)) ⊕ (((List Int)×Int×(List z0e)) ⊕ ((List z0e)×z0d))):=
 some (.inl (c19,c20,l21))
noncomputable def z7o (k6:Nat) (k13:Nat) (x16:z0s) (c10:(List Int)) (c11:Int) (l12:(List z0e)):Option (((List Int)×Int×(List z0e)) ⊕ (((List Int)×Int×(List z0e)) ⊕ ((List z0e)×z0d))):=
 if ([[109,97,112,115],[115,104,111,112]]).length≤1000000000 then forL (fun (k:Nat) (x:Bs) (s:(List Int)×Int×(List z0e))=>z7n k6 x16 k x s.1 s.2.1 s.2.2) (fun (s:(List Int)×Int×(List z0e))=>y0g s.1 s.2.1 s.2.2) 0 ([[109,97,112,115],[115,104,111,112]]) (c10,c11,l12) else none
noncomputable def y0h (c10:(List Int)) (c11:Int) (l12:(List z0e)):Option (((List Int)×Int×(List z0e)) ⊕ ((List z0e)×z0d)):=
 some (.inl (c10,c11,l12))
noncomputable def z7p (apps2:(List z0s)) (k6:Nat) (c3:(List Int)) (c4:Int) (l5:(List z0e)):Option (((List Int)×Int×(List z0e)) ⊕ ((List z0e)×z0d)):=
 if apps2.length≤1000000000 then forL (fun (k:Nat) (x:z0s) (s:(List Int)×Int×(List z0e))=>z7o k6 k x s.1 s.2.1 s.2.2) (fun (s:(List Int)×Int×(List z0e))=>y0h s.1 s.2.1 s.2.2) 0 apps2 (c3,c4,l5) else none
noncomputable def y0i (c3:(List Int)) (c4:Int) (l5:(List z0e)):Option ((List z0e)×z0d):=
 some (l5,(z0d.mk c3 c4))
noncomputable def z6c (s1:z0d) (apps2:(List z0s)):Option ((List z0e)×z0d):=
 if 3≤1000000000 then rng (fun (k:Nat) (s:(List Int)×Int×(List z0e))=>z7p apps2 k s.1 s.2.1 s.2.2) (fun (s:(List Int)×Int×(List z0e))=>y0i s.1 s.2.1 s.2.2) 3 0 (s1.L,s1.at_,[]) else none
noncomputable def z6v (out24:(List z0e)) (c25:(List Int)) (c26:Int):Option ((List z0e)×z0d):=
 some (out24,(z0d.mk c25 c26))
noncomputable def z49 (r3:((List z0e)×z0d)) (v10:Bool) (c11:(List Int)) (c12:Int):Option ((List z0e)×z0d):=
 if v10 then ((z2f (z0d.mk c11 c12) (r3.1.length:Int)).bind fun (r14:(Int×z0d))=>(at? r3.1 r14.1).bind fun (x16:z0e)=>(z1i r14.2 ([x16.App,[110,111,110,101]])).bind fun (r18:(Bs×z0d))=>(z2m r18.2 0 132).bind fun (r20:(Int×z0d))=>(z2m r20.2 0 1000).bind fun (r22:(Int×z0d))=>z6v (((r3.1.set r14.1.toNat (z0e.mk r18.1 x16.Product x16.Month x16.Calls)).set r14.1.toNat (z0e.mk r18.1 x16.Product r20.1 x16.Calls)).set r14.1.toNat (z0e.mk r18.1 x16.Product r20.1 r22.1)) r22.2.L r22.2.at_) else (z6v r3.1 c11 c12)
noncomputable def z64 (s1:z0d) (apps2:(List z0s)):Option ((List z0e)×z0d):=
 (z6c s1 apps2).bind fun (r3:((List z0e)×z0d))=>if decide (0 < (r3.1.length:Int)) then ((z1q r3.2 15).bind fun (r7:(Bool×z0d))=>z49 r3 r7.1 r7.2.L r7.2.at_) else (z49 r3 false r3.2.L r3.2.at_)
noncomputable def z5c (s1:z0d):Option (Int×z0d):=
 (z1e s1 [0,1,2,3]).bind fun (r2:(Int×z0d))=>(z1e r2.2 [0,0,1,14,15,29]).bind fun (r4:(Int×z0d))=>(z1e r4.2 [0,1,1000,(-1)]).bind fun (r6:(Int×z0d))=>some (wr ((wr ((wr (r2.1 * 2592000000))+(wr (r4.1 * 86400000))))+r6.1),r6.2)
noncomputable def z2b (i4:Int) (data28:(List z0e)):Option ((Int×(List z0e)) ⊕ ((List z0e))):=
 some (.inl (wr (i4+1),data28))
noncomputable def z2a (i4:Int) (j8:Int) (l9:(List z0e)) (v20:Bool):Option ((Int×(List z0e)) ⊕ ((Int×(List z0e)) ⊕ ((List z0e)))):=
 if v20 then ((at? l9 (wr (j8 - 1))).bind fun (x22:z0e)=>(at? l9 j8).bind fun (x24:z0e)=>(at? (l9.set j8.toNat x22) (wr (j8 - 1))).bind fun (x26:z0e)=>some (.inl (wr (j8 - 1),((l9.set j8.toNat x22).set ((wr (j8 - 1)).toNat) x24)))) else (Option.map .inr (z2b i4 l9))
noncomputable def z4d (a2:Int) (p3:z0e→z0e→Option (Int)) (i4:Int) (j8:Int) (l9:(List z0e)):Option ((Int×(List z0e)) ⊕ ((Int×(List z0e)) ⊕ ((List z0e)))):=
 if decide (a2 < j8) then ((at? l9 j8).bind fun (x13:z0e)=>(at? l9 (wr (j8 - 1))).bind fun (x15:z0e)=>(p3 x13 x15).bind fun (r17:Int)=>z2a i4 j8 l9 (decide (r17 < 0))) else (z2a i4 j8 l9 false)
noncomputable def z4e (a2:Int) (b3:Int) (p3:z0e→z0e→Option (Int)) (i4:Int) (l5:(List z0e)):Option ((Int×(List z0e)) ⊕ ((List z0e))):=
 if decide (i4 < b3) then (iter (fun (s:Int×(List z0e))=>z4d a2 p3 i4 s.1 s.2) (i4,l5)) else (some (.inr l5))
noncomputable def z2h (data1:(List z0e)) (a2:Int) (b3:Int) (p3:z0e→z0e→Option (Int)):Option ((List z0e)):=
 iter (fun (s:Int×(List z0e))=>z4e a2 b3 p3 s.1 s.2) (wr (a2+1),data1)
noncomputable def z44 (a2:Int) (b3:Int) (i6:Nat) (l5:(List z0e)):Option ((List z0e) ⊕ ((List z0e))):=
 (at? l5 (wr (b3+(i6:Int)))).bind fun (x10:z0e)=>(at? l5 (wr (a2+(i6:Int)))).bind fun (x12:z0e)=>(at? (l5.set ((wr (a2+(i6:Int))).toNat) x10) (wr (b3+(i6:Int)))).bind fun (x14:z0e)=>some (.inl ((l5.set ((wr (a2+(i6:Int))).toNat) x10).set ((wr (b3+(i6:Int))).toNat) x12))
noncomputable def z69 (l5:(List z0e)):Option ((List z0e)):=
 some l5
noncomputable def z2k (data1:(List z0e)) (a2:Int) (b3:Int) (n4:Int) (p4:z0e→z0e→Option (Int)):Option ((List z0e)):=
 if n4≤1000000000 then rng (fun (k:Nat) (s:(List z0e))=>z44 a2 b3 k s) (fun (s:(List z0e))=>z69 s) n4.toNat 0 data1 else none
noncomputable def z4q (m3:Int) (p4:z0e→z0e→Option (Int)) (i17:Int) (data18:(List z0e)):Option ((List z0e)):=
 (z2k data18 (wr (m3 - i17)) m3 i17 p4).bind fun (r19:((List z0e)))=>if r19.length=data18.length then some r19 else none
noncomputable def z6a (m3:Int) (p4:z0e→z0e→Option (Int)) (i5:Int) (j6:Int) (l7:(List z0e)):Option ((Int×Int×(List z0e)) ⊕ ((List z0e))):=
 if decide (i5≠j6) then (if decide (j6 < i5) then ((z2k l7 (wr (m3 - i5)) m3 j6 p4).bind fun (r11:((List z0e)))=>if r11.length=l7.length then (some (.inl (wr (i5 - j6),j6,r11))) else none) else ((z2k l7 (wr (m3 - i5)) (wr ((wr (m3+j6)) - i5)) i5 p4).bind fun (r14:((List z0e)))=>if r14.length=l7.length then (some (.inl (i5,wr (j6 - i5),r14))) else none)) else (Option.map .inr (z4q m3 p4 i5 l7))
noncomputable def z3u (data1:(List z0e)) (a2:Int) (m3:Int) (b4:Int) (p4:z0e→z0e→Option (Int)):Option ((List z0e)):=
 iter (fun (s:Int×Int×(List z0e))=>z6a m3 p4 s.1 s.2.1 s.2.2) (wr (m3 - a2),wr (b4 - m3),data1)
noncomputable def z5j (l28:(List z0e)):Option ((List z0e)):=
 some l28
noncomputable def z5g (v17:Int) (v18:Int) (l19:(List z0e)):Option ((Int×(List z0e)) ⊕ ((List z0e))):=
 if decide (v18 < (wr (v17 - 1))) then ((at? l19 (wr (v18+1))).bind fun (x22:z0e)=>(at? l19 v18).bind fun (x24:z0e)=>(at? (l19.set v18.toNat x22) (wr (v18+1))).bind fun (x26:z0e)=>some (.inl (wr (v18+1),((l19.set v18.toNat x22).set ((wr (v18+1)).toNat) x24)))) else (Option.map .inr (z5j l19))
noncomputable def z39 (v1:(List z0e)) (v2:Int) (v17:Int):Option ((List z0e)):=
 iter (fun (s:Int×(List z0e))=>z5g v17 s.1 s.2) (v2,v1)
noncomputable def z5h (v1:(List z0e)) (v2:Int) (p4:z0e→z0e→Option (Int)) (v6:Int) (v7:Int):Option ((Int×Int) ⊕ ((List z0e))):=
 if decide (v6 < v7) then ((at? v1 (IntKind.wrap .i64 (shr_ .u64 (IntKind.wrap .u64 (wr (v6+v7))) 1))).bind fun (x10:z0e)=>(at? v1 v2).bind fun (x12:z0e)=>(p4 x10 x12).bind fun (r14:Int)=>if decide (r14 < 0) then (some (.inl (wr ((IntKind.wrap .i64 (shr_ .u64 (IntKind.wrap .u64 (wr (v6+v7))) 1))+1),v7))) else (some (.inl (v6,IntKind.wrap .i64 (shr_ .u64 (IntKind.wrap .u64 (wr (v6+v7))) 1))))) else (Option.map .inr (z39 v1 v2 v6))
noncomputable def z5i (l52:(List z0e)):Option ((List z0e)):=
 some l52
noncomputable def z5e (v41:Int) (v42:Int) (l43:(List z0e)):Option ((Int×(List z0e)) ⊕ ((List z0e))):=
 if decide (v41 < v42) then ((at? l43 (wr (v42 - 1))).bind fun (x46:z0e)=>(at? l43 v42).bind fun (x48:z0e)=>(at? (l43.set v42.toNat x46) (wr (v42 - 1))).bind fun (x50:z0e)=>some (.inl (wr (v42 - 1),((l43.set v42.toNat x46).set ((wr (v42 - 1)).toNat) x48)))) else (Option.map .inr (z5i l43))
noncomputable def z38 (v1:(List z0e)) (v3:Int) (v41:Int):Option ((List z0e)):=
 iter (fun (s:Int×(List z0e))=>z5e v41 s.1 s.2) (v3,v1)
noncomputable def z5f (v1:(List z0e)) (v3:Int) (p4:z0e→z0e→Option (Int)) (v30:Int) (v31:Int):Option ((Int×Int) ⊕ ((List z0e))):=
 if decide (v30 < v31) then ((at? v1 v3).bind fun (x34:z0e)=>(at? v1 (IntKind.wrap .i64 (shr_ .u64 (IntKind.wrap .u64 (wr (v30+v31))) 1))).bind fun (x36:z0e)=>(p4 x34 x36).bind fun (r38:Int)=>if !(decide (r38 < 0)) then (some (.inl (wr ((IntKind.wrap .i64 (shr_ .u64 (IntKind.wrap .u64 (wr (v30+v31))) 1))+1),v31))) else (some (.inl (v30,IntKind.wrap .i64 (shr_ .u64 (IntKind.wrap .u64 (wr (v30+v31))) 1))))) else (Option.map .inr (z38 v1 v3 v30))
noncomputable def z17 (v2:Int) (v3:Int) (v4:Int) (p4:z0e→z0e→Option (Int)) (mr0:(List z0e)→Int→Int→Int→(z0e→z0e→Option (Int))→Option ((List z0e))) (v67:Int) (v77:(List z0e)):Option ((List z0e)):=
 if ((decide ((IntKind.wrap .i64 (shr_ .u64 (IntKind.wrap .u64 (wr (v2+v4))) 1)) < (wr ((wr ((IntKind.wrap .i64 (shr_ .u64 (IntKind.wrap .u64 (wr (v2+v4))) 1))+v3)) - v67)))) && (decide ((wr ((wr ((IntKind.wrap .i64 (shr_ .u64 (IntKind.wrap .u64 (wr (v2+v4))) 1))+v3)) - v67)) < v4))) then ((mr0 v77 (IntKind.wrap .i64 (shr_ .u64 (IntKind.wrap .u64 (wr (v2+v4))) 1)) (wr ((wr ((IntKind.wrap .i64 (shr_ .u64 (IntKind.wrap .u64 (wr (v2+v4))) 1))+v3)) - v67)) v4 p4).bind fun (r79:((List z0e)))=>if r79.length=v77.length then some r79 else none) else some v77
noncomputable def z19 (v2:Int) (v3:Int) (v4:Int) (p4:z0e→z0e→Option (Int)) (mr0:(List z0e)→Int→Int→Int→(z0e→z0e→Option (Int))→Option ((List z0e))) (v67:Int) (v72:(List z0e)):Option ((List z0e)):=
 if ((decide (v2 < v67)) && (decide (v67 < (IntKind.wrap .i64 (shr_ .u64 (IntKind.wrap .u64 (wr (v2+v4))) 1))))) then ((mr0 v72 v2 v67 (IntKind.wrap .i64 (shr_ .u64 (IntKind.wrap .u64 (wr (v2+v4))) 1)) p4).bind fun (r74:((List z0e)))=>if r74.length=v72.length then (z17 v2 v3 v4 p4 mr0 v67 r74) else none) else (z17 v2 v3 v4 p4 mr0 v67 v72)
noncomputable def z33 (v1:(List z0e)) (v2:Int) (v3:Int) (v4:Int) (p4:z0e→z0e→Option (Int)) (mr0:(List z0e)→Int→Int→Int→(z0e→z0e→Option (Int))→Option ((List z0e))) (v67:Int):Option ((List z0e)):=
 if ((decide (v67 < v3)) && (decide (v3 < (wr ((wr ((IntKind.wrap .i64 (shr_ .u64 (IntKind.wrap .u64 (wr (v2+v4))) 1))+v3)) - v67))))) then ((z3u v1 v67 v3 (wr ((wr ((IntKind.wrap .i64 (shr_ .u64 (IntKind.wrap .u64 (wr (v2+v4))) 1))+v3)) - v67)) p4).bind fun (r69:((List z0e)))=>if r69.length=v1.length then (z19 v2 v3 v4 p4 mr0 v67 r69) else none) else (z19 v2 v3 v4 p4 mr0 v67 v1)
noncomputable def z43 (v1:(List z0e)) (v2:Int) (v3:Int) (v4:Int) (p4:z0e→z0e→Option (Int)) (mr0:(List z0e)→Int→Int→Int→(z0e→z0e→Option (Int))→Option ((List z0e))) (v56:Int) (v57:Int):Option ((Int×Int) ⊕ ((List z0e))):=
 if decide (v56 < v57) then ((at? v1 (wr ((wr ((wr ((IntKind.wrap .i64 (shr_ .u64 (IntKind.wrap .u64 (wr (v2+v4))) 1))+v3)) - 1)) - (IntKind.wrap .i64 (shr_ .u64 (IntKind.wrap .u64 (wr (v56+v57))) 1))))).bind fun (x60:z0e)=>(at? v1 (IntKind.wrap .i64 (shr_ .u64 (IntKind.wrap .u64 (wr (v56+v57))) 1))).bind fun (x62:z0e)=>(p4 x60 x62).bind fun (r64:Int)=>if !(decide (r64 < 0)) then (some (.inl (wr ((IntKind.wrap .i64 (shr_ .u64 (IntKind.wrap .u64 (wr (v56+v57))) 1))+1),v57))) else (some (.inl (v56,IntKind.wrap .i64 (shr_ .u64 (IntKind.wrap .u64 (wr (v56+v57))) 1))))) else (Option.map .inr (z33 v1 v2 v3 v4 p4 mr0 v56))
noncomputable def z2j (v1:(List z0e)) (v2:Int) (v3:Int) (v4:Int) (p4:z0e→z0e→Option (Int)) (mr0:(List z0e)→Int→Int→Int→(z0e→z0e→Option (Int))→Option ((List z0e))) (v54:Int) (v55:Int):Option ((List z0e)):=
 iter (fun (s:Int×Int)=>z43 v1 v2 v3 v4 p4 mr0 s.1 s.2) (v54,v55)
noncomputable def z2d (mr0:(List z0e)→Int→Int→Int→(z0e→z0e→Option (Int))→Option ((List z0e))) (v1:(List z0e)) (v2:Int) (v3:Int) (v4:Int) (p4:z0e→z0e→Option (Int)):Option ((List z0e)):=
 if decide ((wr (v3 - v2))=1) then (iter (fun (s:Int×Int)=>z5h v1 v2 p4 s.1 s.2) (v3,v4)) else (if decide ((wr (v4 - v3))=1) then (iter (fun (s:Int×Int)=>z5f v1 v3 p4 s.1 s.2) (v2,v3)) else (if decide ((IntKind.wrap .i64 (shr_ .u64 (IntKind.wrap .u64 (wr (v2+v4))) 1)) < v3) then (z2j v1 v2 v3 v4 p4 mr0 (wr ((wr ((IntKind.wrap .i64 (shr_ .u64 (IntKind.wrap .u64 (wr (v2+v4))) 1))+v3)) - v4)) (IntKind.wrap .i64 (shr_ .u64 (IntKind.wrap .u64 (wr (v2+v4))) 1))) else (z2j v1 v2 v3 v4 p4 mr0 v2 v3)))
noncomputable def z2c:Nat→(List z0e)→Int→Int→Int→(z0e→z0e→Option (Int))→Option ((List z0e))
 | 0=>fun _ _ _ _ _=>none
 | n+1=>z2d (z2c n)
noncomputable def z4f (v1:(List z0e)) (v2:Int) (v3:Int) (v4:Int) (p4:z0e→z0e→Option (Int)):Option ((List z0e)):=
 z2c 64 v1 v2 v3 v4 p4
noncomputable def z2q (blockSize16:Int) (data34:(List z0e)):Option ((Int×(List z0e)) ⊕ ((List z0e))):=
 some (.inl (wr (blockSize16 * 2),data34))
noncomputable def z4o (n2:Int) (p2:z0e→z0e→Option (Int)) (blockSize16:Int) (a28:Int) (data29:(List z0e)):Option ((Int×(List z0e)) ⊕ ((List z0e))):=
 if decide ((wr (a28+blockSize16)) < n2) then ((z4f data29 a28 (wr (a28+blockSize16)) n2 p2).bind fun (r31:((List z0e)))=>if r31.length=data29.length then (z2q blockSize16 r31) else none) else (z2q blockSize16 data29)
noncomputable def z57 (n2:Int) (p2:z0e→z0e→Option (Int)) (blockSize16:Int) (a20:Int) (b21:Int) (l22:(List z0e)):Option ((Int×Int×(List z0e)) ⊕ ((Int×(List z0e)) ⊕ ((List z0e)))):=
 if decide (b21≤n2) then ((z4f l22 a20 (wr (a20+blockSize16)) b21 p2).bind fun (r25:((List z0e)))=>if r25.length=l22.length then (some (.inl (b21,wr (b21+(wr (2 * blockSize16))),r25))) else none) else (Option.map .inr (z4o n2 p2 blockSize16 a20 l22))
noncomputable def z58 (n2:Int) (p2:z0e→z0e→Option (Int)) (blockSize16:Int) (l17:(List z0e)):Option ((Int×(List z0e)) ⊕ ((List z0e))):=
 if decide (blockSize16 < n2) then (iter (fun (s:Int×Int×(List z0e))=>z57 n2 p2 blockSize16 s.1 s.2.1 s.2.2) (0,wr (2 * blockSize16),l17)) else (some (.inr l17))
noncomputable def z4p (n2:Int) (p2:z0e→z0e→Option (Int)) (a11:Int) (data12:(List z0e)):Option ((List z0e)):=
 (z2h data12 a11 n2 p2).bind fun (r13:((List z0e)))=>if r13.length=data12.length then (iter (fun (s:Int×(List z0e))=>z58 n2 p2 s.1 s.2) (20,r13)) else none
noncomputable def z59 (n2:Int) (p2:z0e→z0e→Option (Int)) (a3:Int) (b4:Int) (l5:(List z0e)):Option ((Int×Int×(List z0e)) ⊕ ((List z0e))):=
 if decide (b4≤n2) then ((z2h l5 a3 b4 p2).bind fun (r8:((List z0e)))=>if r8.length=l5.length then (some (.inl (b4,wr (b4+20),r8))) else none) else (Option.map .inr (z4p n2 p2 a3 l5))
noncomputable def z6q (data1:(List z0e)) (n2:Int) (p2:z0e→z0e→Option (Int)):Option ((List z0e)):=
 iter (fun (s:Int×Int×(List z0e))=>z59 n2 p2 s.1 s.2.1 s.2.2) (0,20,data1)
noncomputable def z1z (x1:(List z0e)) (p1:z0e→z0e→Option (Int)):Option ((List z0e)):=
 (z6q x1 (x1.length:Int) p1).bind fun (r2:((List z0e)))=>if r2.length=x1.length then some r2 else none
noncomputable def z2s (k10:Nat) (x13:(List z0e)) (l9:(List z0e)):Option ((List z0e) ⊕ ((List z0e))):=
 if l9.length+x13.length≤1000000000 then (some (.inl (l9++x13))) else none
noncomputable def z7a (l9:(List z0e)):Option ((List z0e)):=
 some l9
noncomputable def z2t (k3:Nat) (x6:(List z0e)) (size2:Int):Option (Int ⊕ ((List z0e))):=
 if decide ((wr (size2+(x6.length:Int))) < 0) then none else (some (.inl (wr (size2+(x6.length:Int)))))
noncomputable def z34 (slices1:(List (List z0e))) (size2:Int):Option ((List z0e)):=
 (y3k size2).bind fun (r7:((List z0e)))=>if slices1.length≤1000000000 then forL (fun (k:Nat) (x:(List z0e)) (s:(List z0e))=>z2s k x s) (fun (s:(List z0e))=>z7a s) 0 slices1 r7 else none
noncomputable def z3c (slices1:(List (List z0e))):Option ((List z0e)):=
 if slices1.length≤1000000000 then forL (fun (k:Nat) (x:(List z0e)) (s:Int)=>z2t k x s) (fun (s:Int)=>z34 slices1 s) 0 slices1 0 else none
noncomputable def y2p (x1:Int):Option (Bool):=
 some (decide (x1≠x1))
noncomputable def z74 (x1:Int) (y2:Int):Option (Int):=
 (y2p x1).bind fun (r3:(Bool))=>(y2p y2).bind fun (r5:(Bool))=>if r3 then (if r5 then some 0 else (some (-1))) else (if r5 then some 1 else (if decide (x1 < y2) then (some (-1)) else (if decide (y2 < x1) then some 1 else some 0)))
noncomputable def y5g (k2:Nat) (x5:Int):Option (Unit ⊕ (Int)):=
 if decide (x5≠0) then (some (.inr x5)) else (some (.inl ()))
noncomputable def y5h:Option (Int):=
 some 0
noncomputable def y2g (vals1:(List Int)):Option (Int):=
 if vals1.length≤1000000000 then forL (fun (k:Nat) (x:Int) (s:Unit)=>y5g k x) (fun (s:Unit)=>y5h) 0 vals1 () else none
noncomputable def z61 (a1:z0e) (b2:z0e):Option (Int):=
 (z74 a1.Month b2.Month).bind fun (r3:(Int))=>(z4u a1.App b2.App).bind fun (r5:(Int))=>(z4u a1.Product b2.Product).bind fun (r7:(Int))=>(y2g [r3,r5,r7]).bind fun (r9:(Int))=>some r9
noncomputable def z6m (p1:z0e→Option (Bool)) (k2:Nat) (x5:z0e):Option (Unit ⊕ (Int)):=
 (p1 x5).bind fun (r8:Bool)=>if r8 then (some (.inr (k2:Int))) else (some (.inl ()))
noncomputable def z6n:Option (Int):=
 some (-1)
noncomputable def z60 (s1:(List z0e)) (p1:z0e→Option (Bool)):Option (Int):=
 if s1.length≤1000000000 then forL (fun (k:Nat) (x:z0e) (s:Unit)=>z6m p1 k x) (fun (s:Unit)=>z6n) 0 s1 () else none
noncomputable def z2r (s1:(List z0e)) (p1:z0e→Option (Bool)):Option (Bool):=
 (z60 s1 p1).bind fun (r2:(Int))=>some (decide (0≤r2))
noncomputable def y2u (u1:z0e):Option (Bool):=
 some (decide (1000000000000 < u1.Calls))
noncomputable def y6t (i2:Nat) (x5:UInt8):Option (Unit ⊕ (Bool)):=
 if !(((decide (97≤(x5.toNat:Int))) && (decide ((x5.toNat:Int)≤122))) || ((decide (0 < (i2:Int))) && ((((decide (48≤(x5.toNat:Int))) && (decide ((x5.toNat:Int)≤57))) || (decide ((x5.toNat:Int)=45))) || (decide ((x5.toNat:Int)=95))))) then (some (.inr false)) else (some (.inl ()))
noncomputable def y8a (s1:Bs):Option (Bool):=
 some ((decide (s1≠[])) && (decide ((s1.length:Int)≤40)))
noncomputable def y2f (s1:Bs):Option (Bool):=
 if s1.length≤1000000000 then forL (fun (k:Nat) (x:UInt8) (s:Unit)=>y6t k x) (fun (s:Unit)=>y8a s1) 0 s1 () else none
noncomputable def y32 (r2:((List Bs))) (k4:Nat) (x7:Bs):Option (Unit ⊕ (Bool)):=
 (y2f x7).bind fun (r10:(Bool))=>if ((!r10) && (!((decide (x7=[42])) && (decide ((k4:Int)=(wr ((r2.length:Int) - 1))))))) then (some (.inr false)) else (some (.inl ()))
noncomputable def y5o (r2:((List Bs))):Option (Bool):=
 some (decide ((r2.length:Int)≤10))
noncomputable def y29 (s1:Bs):Option (Bool):=
 (z9g s1 [58]).bind fun (r2:((List Bs)))=>if r2.length≤1000000000 then forL (fun (k:Nat) (x:Bs) (s:Unit)=>y32 r2 k x) (fun (s:Unit)=>y5o r2) 0 r2 () else none
noncomputable def y1l (k3:Nat) (x6:Bs):Option (Unit ⊕ (Int)):=
 (y29 x6).bind fun (r9:(Bool))=>if !r9 then (some (.inr 3)) else (some (.inl ()))
noncomputable def y3p:Option (Int):=
 some 0
noncomputable def y0t (l1:(List Bs)):Option (Int):=
 if decide (50 < (l1.length:Int)) then some 2 else (if l1.length≤1000000000 then forL (fun (k:Nat) (x:Bs) (s:Unit)=>y1l k x) (fun (s:Unit)=>y3p) 0 l1 () else none)
noncomputable def z45 (x6:z0r) (v17:Bool):Option (Unit ⊕ (Int)):=
 if v17 then (some (.inr 7)) else ((y0t x6.Scopes).bind fun (r19:(Int))=>if decide (r19≠0) then (some (.inr r19)) else (some (.inl ())))
noncomputable def y0c (l1:(List z0r)) (k3:Nat) (x6:z0r):Option (Unit ⊕ (Int)):=
 (y2f x6.Key).bind fun (r9:(Bool))=>if !r9 then (some (.inr 5)) else (if decide (0 < (k3:Int)) then ((at? l1 ((k3:Int) - 1)).bind fun (x14:z0r)=>z45 x6 (Op.bytesLess x6.Key x14.Key || x6.Key == x14.Key)) else (z45 x6 false))
noncomputable def y2b:Option (Int):=
 some 0
noncomputable def z8l (l1:(List z0r)):Option (Int):=
 if decide (100 < (l1.length:Int)) then some 2 else (if l1.length≤1000000000 then forL (fun (k:Nat) (x:z0r) (s:Unit)=>y0c l1 k x) (fun (s:Unit)=>y2b) 0 l1 () else none)
noncomputable def z1u (i12:Int) (v20:Bool):Option (Int×Bool):=
 some (i12,v20)
noncomputable def z2e (x1:(List z0r)) (target2:Bs) (p2:z0r→Bs→Option (Int)) (i12:Int):Option (Int×Bool):=
 if decide (i12 < (x1.length:Int)) then ((at? x1 i12).bind fun (x15:z0r)=>(p2 x15 target2).bind fun (r17:Int)=>z1u i12 (decide (r17=0))) else (z1u i12 false)
noncomputable def z28 (x1:(List z0r)) (target2:Bs) (p2:z0r→Bs→Option (Int)) (i3:Int) (j4:Int):Option ((Int×Int) ⊕ (Int×Bool)):=
 if decide (i3 < j4) then ((at? x1 (IntKind.wrap .i64 (shr_ .u64 (IntKind.wrap .u64 (wr (i3+j4))) 1))).bind fun (x7:z0r)=>(p2 x7 target2).bind fun (r9:Int)=>if decide (r9 < 0) then (some (.inl (wr ((IntKind.wrap .i64 (shr_ .u64 (IntKind.wrap .u64 (wr (i3+j4))) 1))+1),j4))) else (some (.inl (i3,IntKind.wrap .i64 (shr_ .u64 (IntKind.wrap .u64 (wr (i3+j4))) 1))))) else (Option.map .inr (z2e x1 target2 p2 i3))
noncomputable def z2i (x1:(List z0r)) (target2:Bs) (p2:z0r→Bs→Option (Int)):Option (Int×Bool):=
 iter (fun (s:Int×Int)=>z28 x1 target2 p2 s.1 s.2) (0,(x1.length:Int))
noncomputable def z8g (p1:z0r) (k2:Bs):Option (Int):=
 (z4u p1.Key k2).bind fun (r3:(Int))=>some r3
noncomputable def z62 (c1:z0i) (key2:Bs):Option (Int×Bool):=
 (z2i c1.Products key2 (fun (a0:z0r) (a1:Bs)=>z8g a0 a1)).bind fun (r3:(Int×Bool))=>some (r3.1,r3.2)
noncomputable def z6r (n1:Int) (low2:Int) (high3:Int):Option (Bool):=
 some ((decide (n1 < low2)) || (decide (high3 < n1)))
noncomputable def z8e (v12:Bool):Option (Int):=
 if v12 then some 3 else some 0
noncomputable def z8d (v30:Bool):Option (Unit ⊕ (Int)):=
 if v30 then (some (.inr 7)) else (some (.inl ()))
noncomputable def z5s (l1:(List z02)) (k3:Nat) (x6:z02) (v23:Bool):Option (Unit ⊕ (Int)):=
 if v23 then (some (.inr 1)) else (if decide (0 < (k3:Int)) then ((at? l1 ((k3:Int) - 1)).bind fun (x27:z02)=>z8d (decide (x6.From≤x27.From))) else (z8d false))
noncomputable def z94 (l1:(List z02)) (k3:Nat) (x6:z02):Option (Unit ⊕ (Int)):=
 (z6r x6.From 1 1000000000000).bind fun (r16:(Bool))=>if r16 then (z5s l1 k3 x6 true) else ((z6r x6.Cents 0 1000000).bind fun (r20:(Bool))=>z5s l1 k3 x6 r20)
noncomputable def y1n (l1:(List z02)):Option (Int):=
 if decide (0 < (l1.length:Int)) then ((l1[0]?).bind fun (x9:z02)=>z8e (decide (x9.From≠1))) else (z8e false)
noncomputable def y0v (l1:(List z02)):Option (Int):=
 if decide (20 < (l1.length:Int)) then some 2 else (if l1.length≤1000000000 then forL (fun (k:Nat) (x:z02) (s:Unit)=>z94 l1 k x) (fun (s:Unit)=>y1n l1) 0 l1 () else none)
noncomputable def z8r (v37:Bool):Option (Int):=
 if v37 then some 1 else some 0
noncomputable def z8s (x3:z0p) (v25:Bool):Option (Int):=
 if v25 then some 1 else ((y0v x3.Tiers).bind fun (r27:(Int))=>if decide (r27≠0) then some r27 else ((z6r x3.Limit (-1) 1000000000000).bind fun (r30:(Bool))=>if r30 then (z8r true) else ((z6r x3.Trial 0 132).bind fun (r34:(Bool))=>z8r r34)))
noncomputable def z7b (v1:z0i) (x3:z0p) (v13:Bool):Option (Int):=
 if v13 then some 7 else ((z62 v1 x3.Product).bind fun (r15:(Int×Bool))=>if !r15.2 then some 8 else ((z6r x3.Base 0 1000000000000).bind fun (r18:(Bool))=>if r18 then (z8s x3 true) else ((z6r x3.Free 0 1000000000000).bind fun (r22:(Bool))=>z8s x3 r22)))
noncomputable def y09 (v1:z0i) (v2:Int):Option (Int):=
 (at? v1.Plans v2).bind fun (x3:z0p)=>(y2f x3.Key).bind fun (r5:(Bool))=>if !r5 then some 5 else (if decide (0 < v2) then ((at? v1.Plans (wr (v2 - 1))).bind fun (x10:z0p)=>z7b v1 x3 (Op.bytesLess x3.Key x10.Key || x3.Key == x10.Key)) else (z7b v1 x3 false))
noncomputable def y03 (c1:z0i) (k6:Nat) (x9:z0p):Option (Unit ⊕ (Int)):=
 (y09 c1 (k6:Int)).bind fun (r12:(Int))=>if decide (r12≠0) then (some (.inr r12)) else (some (.inl ()))
noncomputable def y2y:Option (Int):=
 some 0
noncomputable def z6b (c1:z0i):Option (Int):=
 (z8l c1.Products).bind fun (r2:(Int))=>if decide (r2≠0) then some r2 else (if decide (100 < (c1.Plans.length:Int)) then some 2 else (if c1.Plans.length≤1000000000 then forL (fun (k:Nat) (x:z0p) (s:Unit)=>y03 c1 k x) (fun (s:Unit)=>y2y) 0 c1.Plans () else none))
noncomputable def z8u (v23:Bool):Option (Unit ⊕ (Int)):=
 if v23 then (some (.inr 7)) else (some (.inl ()))
noncomputable def z7d (l1:(List z0s)) (k3:Nat) (x6:z0s) (v16:Bool):Option (Unit ⊕ (Int)):=
 if v16 then (some (.inr 5)) else (if decide (0 < (k3:Int)) then ((at? l1 ((k3:Int) - 1)).bind fun (x20:z0s)=>z8u (Op.bytesLess x6.Key x20.Key || x6.Key == x20.Key)) else (z8u false))
noncomputable def y2c (l1:(List z0s)) (k3:Nat) (x6:z0s):Option (Unit ⊕ (Int)):=
 (y2f x6.Key).bind fun (r9:(Bool))=>if !r9 then (z7d l1 k3 x6 true) else ((y2f x6.Owner).bind fun (r13:(Bool))=>z7d l1 k3 x6 (!r13))
noncomputable def y4b:Option (Int):=
 some 0
noncomputable def z9v (l1:(List z0s)):Option (Int):=
 if decide (500 < (l1.length:Int)) then some 2 else (if l1.length≤1000000000 then forL (fun (k:Nat) (x:z0s) (s:Unit)=>y2c l1 k x) (fun (s:Unit)=>y4b) 0 l1 () else none)
noncomputable def z14 (i12:Int) (v20:Bool):Option (Int×Bool):=
 some (i12,v20)
noncomputable def z2x (x1:(List z0s)) (target2:Bs) (p2:z0s→Bs→Option (Int)) (i12:Int):Option (Int×Bool):=
 if decide (i12 < (x1.length:Int)) then ((at? x1 i12).bind fun (x15:z0s)=>(p2 x15 target2).bind fun (r17:Int)=>z14 i12 (decide (r17=0))) else (z14 i12 false)
noncomputable def z3t (x1:(List z0s)) (target2:Bs) (p2:z0s→Bs→Option (Int)) (i3:Int) (j4:Int):Option ((Int×Int) ⊕ (Int×Bool)):=
 if decide (i3 < j4) then ((at? x1 (IntKind.wrap .i64 (shr_ .u64 (IntKind.wrap .u64 (wr (i3+j4))) 1))).bind fun (x7:z0s)=>(p2 x7 target2).bind fun (r9:Int)=>if decide (r9 < 0) then (some (.inl (wr ((IntKind.wrap .i64 (shr_ .u64 (IntKind.wrap .u64 (wr (i3+j4))) 1))+1),j4))) else (some (.inl (i3,IntKind.wrap .i64 (shr_ .u64 (IntKind.wrap .u64 (wr (i3+j4))) 1))))) else (Option.map .inr (z2x x1 target2 p2 i3))
noncomputable def z23 (x1:(List z0s)) (target2:Bs) (p2:z0s→Bs→Option (Int)):Option (Int×Bool):=
 iter (fun (s:Int×Int)=>z3t x1 target2 p2 s.1 s.2) (0,(x1.length:Int))
noncomputable def y06 (a1:z0s) (k2:Bs):Option (Int):=
 (z4u a1.Key k2).bind fun (r3:(Int))=>some r3
noncomputable def y1g (l1:(List z0s)) (key2:Bs):Option (Int×Bool):=
 (z23 l1 key2 (fun (a0:z0s) (a1:Bs)=>y06 a0 a1)).bind fun (r3:(Int×Bool))=>some (r3.1,r3.2)
noncomputable def z8t (v38:Bool):Option (Unit ⊕ (Int)):=
 if v38 then (some (.inr 7)) else (some (.inl ()))
noncomputable def z7c (v3:(List z0e)) (k11:Nat) (x14:z0e) (v29:Bool):Option (Unit ⊕ (Int)):=
 if v29 then (some (.inr 1)) else (if decide (0 < (k11:Int)) then ((at? v3 ((k11:Int) - 1)).bind fun (x33:z0e)=>(z61 x33 x14).bind fun (r35:(Int))=>z8t (decide (0≤r35))) else (z8t false))
noncomputable def y0r (v1:z0i) (v2:(List z0s)) (v3:(List z0e)) (k11:Nat) (x14:z0e):Option (Unit ⊕ (Int)):=
 (y1g v2 x14.App).bind fun (r17:(Int×Bool))=>(z62 v1 x14.Product).bind fun (r19:(Int×Bool))=>if ((!r17.2) || (!r19.2)) then (some (.inr 8)) else ((z6r x14.Month 0 132).bind fun (r22:(Bool))=>if r22 then (z7c v3 k11 x14 true) else ((z6r x14.Calls 0 1000000000000).bind fun (r26:(Bool))=>z7c v3 k11 x14 r26))
noncomputable def y4a:Option (Int):=
 some 0
noncomputable def z52 (v1:z0i) (v2:(List z0s)) (v3:(List z0e)):Option (Int):=
 (z6b v1).bind fun (r4:(Int))=>if decide (r4≠0) then some r4 else ((z9v v2).bind fun (r7:(Int))=>if decide (r7≠0) then some r7 else (if decide (3000 < (v3.length:Int)) then some 2 else (if v3.length≤1000000000 then forL (fun (k:Nat) (x:z0e) (s:Unit)=>y0r v1 v2 v3 k x) (fun (s:Unit)=>y4a) 0 v3 () else none)))
noncomputable def y3i (v36:(List z0e)):Option ((List z0e) ⊕ ((List z0e)×Int)):=
 some (.inl v36)
noncomputable def y2e (l13:(List z0e)) (x22:z0e) (v31:Bool):Option ((List z0e) ⊕ ((List z0e)×Int)):=
 if v31 then ((at? l13 (wr ((l13.length:Int) - 1))).bind fun (x33:z0e)=>y3i (l13.set ((wr ((l13.length:Int) - 1)).toNat) (z0e.mk x33.App x33.Product x33.Month (wr (x33.Calls+x22.Calls))))) else (if l13.length+1≤1000000000 then (y3i (l13++[x22])) else none)
noncomputable def y5z (r10:((List z0e))) (k14:Nat) (l13:(List z0e)):Option ((List z0e) ⊕ ((List z0e)×Int)):=
 (r10[k14]?).bind fun (x22:z0e)=>if decide (0≤(wr ((l13.length:Int) - 1))) then ((at? l13 (wr ((l13.length:Int) - 1))).bind fun (x26:z0e)=>(z61 x26 x22).bind fun (r28:(Int))=>y2e l13 x22 (decide (r28=0))) else (y2e l13 x22 false)
noncomputable def y50 (l13:(List z0e)):Option ((List z0e)×Int):=
 if decide (3000 < (l13.length:Int)) then (some ([],2)) else ((z2r l13 (fun (a0:z0e)=>y2u a0)).bind fun (r18:(Bool))=>if r18 then (some ([],1)) else (some (l13,0)))
noncomputable def y2d (v1:z0i) (v2:(List z0s)) (v3:(List z0e)) (v4:(List z0e)) (k5:Nat):Option (Unit ⊕ ((List z0e)×Int)):=
 (([v3,v4]:List (List z0e))[k5]?).bind fun (x38:(List z0e))=>(z52 v1 v2 x38).bind fun (r40:(Int))=>if decide (r40≠0) then (some (.inr ([],r40))) else (some (.inl ()))
noncomputable def y3j (v3:(List z0e)) (v4:(List z0e)):Option ((List z0e)×Int):=
 (z3c [v3,v4]).bind fun (r8:((List z0e)))=>(z1z r8 (fun (a0:z0e) (a1:z0e)=>z61 a0 a1)).bind fun (r10:((List z0e)))=>if r10.length=r8.length then (if r10.length≤1000000000 then rng (fun (k:Nat) (s:(List z0e))=>y5z r10 k s) (fun (s:(List z0e))=>y50 s) r10.length 0 [] else none) else none
noncomputable def y3a (v1:z0i) (v2:(List z0s)) (v3:(List z0e)) (v4:(List z0e)):Option ((List z0e)×Int):=
 if 2≤1000000000 then rng (fun (k:Nat) (s:Unit)=>y2d v1 v2 v3 v4 k) (fun (s:Unit)=>y3j v3 v4) 2 0 () else none
noncomputable def y2v (n1:Int):Option (Bool):=
 some ((decide (0≤n1)) && (decide (n1 < 345686400000)))
noncomputable def z11 (i12:Int) (v20:Bool):Option (Int×Bool):=
 some (i12,v20)
noncomputable def z2u (x1:(List z0p)) (target2:Bs) (p2:z0p→Bs→Option (Int)) (i12:Int):Option (Int×Bool):=
 if decide (i12 < (x1.length:Int)) then ((at? x1 i12).bind fun (x15:z0p)=>(p2 x15 target2).bind fun (r17:Int)=>z11 i12 (decide (r17=0))) else (z11 i12 false)
noncomputable def z3l (x1:(List z0p)) (target2:Bs) (p2:z0p→Bs→Option (Int)) (i3:Int) (j4:Int):Option ((Int×Int) ⊕ (Int×Bool)):=
 if decide (i3 < j4) then ((at? x1 (IntKind.wrap .i64 (shr_ .u64 (IntKind.wrap .u64 (wr (i3+j4))) 1))).bind fun (x7:z0p)=>(p2 x7 target2).bind fun (r9:Int)=>if decide (r9 < 0) then (some (.inl (wr ((IntKind.wrap .i64 (shr_ .u64 (IntKind.wrap .u64 (wr (i3+j4))) 1))+1),j4))) else (some (.inl (i3,IntKind.wrap .i64 (shr_ .u64 (IntKind.wrap .u64 (wr (i3+j4))) 1))))) else (Option.map .inr (z2u x1 target2 p2 i3))
noncomputable def z2v (x1:(List z0p)) (target2:Bs) (p2:z0p→Bs→Option (Int)):Option (Int×Bool):=
 iter (fun (s:Int×Int)=>z3l x1 target2 p2 s.1 s.2) (0,(x1.length:Int))
noncomputable def y0k (p1:z0p) (k2:Bs):Option (Int):=
 (z4u p1.Key k2).bind fun (r3:(Int))=>some r3
noncomputable def z7z (c1:z0i) (key2:Bs):Option (z0p×Bool):=
 (z2v c1.Plans key2 (fun (a0:z0p) (a1:Bs)=>y0k a0 a1)).bind fun (r3:(Int×Bool))=>if !r3.2 then (some ((z0p.mk [] [] 0 0 [] 0 0 false),false)) else ((at? c1.Plans r3.1).bind fun (x6:z0p)=>some (x6,true))
noncomputable def y04 (a1:z0f) (b2:z0f):Option (Int):=
 (z74 a1.At b2.At).bind fun (r3:(Int))=>(z4u a1.App b2.App).bind fun (r5:(Int))=>(z4u a1.Product b2.Product).bind fun (r7:(Int))=>(y2g [r3,r5,r7]).bind fun (r9:(Int))=>some r9
noncomputable def z8f (v32:Bool):Option (Int):=
 if v32 then some 7 else some 0
noncomputable def z6z (v3:(List z0f)) (v4:Int) (x5:z0f):Option (Int):=
 if decide (0 < v4) then ((at? v3 (wr (v4 - 1))).bind fun (x27:z0f)=>(y04 x27 x5).bind fun (r29:(Int))=>z8f (decide (0≤r29))) else (z8f false)
noncomputable def y0w (v1:z0i) (v2:(List z0s)) (v3:(List z0f)) (v4:Int):Option (Int):=
 (at? v3 v4).bind fun (x5:z0f)=>(y2v x5.At).bind fun (r7:(Bool))=>if !r7 then some 1 else ((y1g v2 x5.App).bind fun (r10:(Int×Bool))=>if !r10.2 then some 8 else ((z62 v1 x5.Product).bind fun (r13:(Int×Bool))=>if !r13.2 then some 8 else ((z6r x5.Kind 1 6).bind fun (r16:(Bool))=>if r16 then some 4 else (if ((decide (x5.Plan≠[])) && (decide (x5.Kind≠1))) then some 3 else (if decide (x5.Kind=1) then ((z7z v1 x5.Plan).bind fun (r21:(z0p×Bool))=>if !r21.2 then some 8 else (if decide (r21.1.Product≠x5.Product) then some 16 else (z6z v3 v4 x5))) else (z6z v3 v4 x5))))))
noncomputable def y08 (c1:z0i) (apps2:(List z0s)) (l3:(List z0f)) (k11:Nat) (x14:z0f):Option (Unit ⊕ (Int)):=
 (y0w c1 apps2 l3 (k11:Int)).bind fun (r17:(Int))=>if decide (r17≠0) then (some (.inr r17)) else (some (.inl ()))
noncomputable def y28:Option (Int):=
 some 0
noncomputable def z96 (c1:z0i) (apps2:(List z0s)) (l3:(List z0f)):Option (Int):=
 (z6b c1).bind fun (r4:(Int))=>if decide (r4≠0) then some r4 else ((z9v apps2).bind fun (r7:(Int))=>if decide (r7≠0) then some r7 else (if decide (1000 < (l3.length:Int)) then some 2 else (if l3.length≤1000000000 then forL (fun (k:Nat) (x:z0f) (s:Unit)=>y08 c1 apps2 l3 k x) (fun (s:Unit)=>y28) 0 l3 () else none)))
noncomputable def y0u (c1:z0i) (apps2:(List z0s)) (l3:(List z0f)) (uses4:(List z0e)):Option (Int):=
 (z96 c1 apps2 l3).bind fun (r5:(Int))=>if decide (r5≠0) then some r5 else ((z52 c1 apps2 uses4).bind fun (r8:(Int))=>some r8)
noncomputable def z95 (v1:Int):Option (Int):=
 (y2v v1).bind fun (r2:(Bool))=>if !r2 then some 1 else some 0
noncomputable def y1s (c1:z0i) (apps2:(List z0s)) (app3:Bs) (product4:Bs) (v5:Int):Option (Int):=
 (y1g apps2 app3).bind fun (r6:(Int×Bool))=>(z62 c1 product4).bind fun (r8:(Int×Bool))=>if ((!r6.2) || (!r8.2)) then some 8 else ((z95 v5).bind fun (r11:(Int))=>some r11)
noncomputable def y3l  : Option (z0o):=
 some (z0o.mk 0 [] 0 (-1))
noncomputable def y0x (s1:z3a) (app2:Bs) (product3:Bs):Option (z0o):=
 if app2.length≤1000000000∧product3.length≤1000000000 then (if !((lkG s1.subs_ (z0u.mk app2 product3)).isSome) then ((y3l ).bind fun (r6:(z0o))=>some r6) else (some (z0o.mk (((lkG s1.subs_ (z0u.mk app2 product3)).getD (z0o.mk 0 [] 0 0)).State) (((lkG s1.subs_ (z0u.mk app2 product3)).getD (z0o.mk 0 [] 0 0)).Plan) (((lkG s1.subs_ (z0u.mk app2 product3)).getD (z0o.mk 0 [] 0 0)).Since) (((lkG s1.subs_ (z0u.mk app2 product3)).getD (z0o.mk 0 [] 0 0)).First)))) else none
noncomputable def y3m (state1:Int):Option (Bool):=
 some ((decide (state1=2)) || (decide (state1=3)))
noncomputable def y5f (s1:z0o) (x2:z0f) (p3:z0p):Option (z0o×Bool):=
 (y3m s1.State).bind fun (r4:(Bool))=>if r4 then (if ((decide (p3.Key=s1.Plan)) || p3.Asked) then (some (s1,false)) else (some ((z0o.mk s1.State p3.Key x2.At s1.First),true))) else (if decide (s1.State=1) then (some (s1,false)) else (if p3.Asked then (some ((z0o.mk 1 p3.Key x2.At (-1)),true)) else (some ((z0o.mk 2 p3.Key x2.At x2.At),true))))
noncomputable def y2t (v12:Bool):Option (Int×Bool):=
 some (4,v12)
noncomputable def y53 (kind1:Int) (state2:Int):Option (Int×Bool):=
 if decide (kind1=2) then (some (2,decide (state2=1))) else (if decide (kind1=3) then (some (4,decide (state2=1))) else (if decide (kind1=4) then (some (3,decide (state2=2))) else (if decide (kind1=5) then (some (2,decide (state2=3))) else (if decide (state2=1) then (y2t true) else ((y3m state2).bind fun (r9:(Bool))=>y2t r9)))))
noncomputable def z9t (s2:z0o) (x3:z0f) (r9:(Int×Bool)) (c13:Int):Option (z0o×Bool):=
 some ((z0o.mk r9.1 s2.Plan x3.At c13),true)
noncomputable def y1t (c1:z0i) (s2:z0o) (x3:z0f):Option (z0o×Bool):=
 if decide (x3.Kind=1) then ((z7z c1 x3.Plan).bind fun (r5:(z0p×Bool))=>(y5f s2 x3 r5.1).bind fun (r7:(z0o×Bool))=>some (r7.1,r7.2)) else ((y53 x3.Kind s2.State).bind fun (r9:(Int×Bool))=>if !r9.2 then (some (s2,false)) else (if ((decide (r9.1=2)) && (decide (s2.First < 0))) then (z9t s2 x3 r9 x3.At) else (z9t s2 x3 r9 s2.First)))
noncomputable def z7x (v23:(List Int)) (m24:(List (z0u×Int))) (m25:(List (z0u×z0o))):Option (((List (z0u×z0o))×(List (z0u×Int))×(List Int)) ⊕ (z3a×(List Int))):=
 some (.inl (m25,m24,v23))
noncomputable def z7y (v26:(List Int)) (m27:(List (z0u×Int))) (m28:(List (z0u×z0o))):Option (z3a×(List Int)):=
 some ((z3a.mk m28 m27),v26)
noncomputable def z5y (v1:z0i) (v3:Int) (k7:Nat) (x10:z0f) (m4:(List (z0u×z0o))) (m5:(List (z0u×Int))) (l6:(List Int)):Option (((List (z0u×z0o))×(List (z0u×Int))×(List Int)) ⊕ (z3a×(List Int))):=
 if decide (v3 < x10.At) then (Option.map .inr (z7y l6 m5 m4)) else ((y0x (z3a.mk m4 m5) x10.App x10.Product).bind fun (r14:(z0o))=>(y1t v1 r14 x10).bind fun (r16:(z0o×Bool))=>if !r16.2 then (if l6.length+1≤1000000000 then (z7x (l6++[(k7:Int)]) m5 m4) else none) else (if x10.App.length≤1000000000∧x10.Product.length≤1000000000 then (if decide (x10.Kind=1) then (if x10.App.length≤1000000000∧x10.Product.length≤1000000000 then (z7x l6 (ptG m5 (z0u.mk x10.App x10.Product) (k7:Int)) (ptG m4 (z0u.mk x10.App x10.Product) r16.1)) else none) else (z7x l6 m5 (ptG m4 (z0u.mk x10.App x10.Product) r16.1))) else none))
noncomputable def z9u (m4:(List (z0u×z0o))) (m5:(List (z0u×Int))) (l6:(List Int)):Option (z3a×(List Int)):=
 z7y l6 m5 m4
noncomputable def y0l (v1:z0i) (v2:(List z0f)) (v3:Int):Option (z3a×(List Int)):=
 if v2.length≤1000000000 then forL (fun (k:Nat) (x:z0f) (s:(List (z0u×z0o))×(List (z0u×Int))×(List Int))=>z5y v1 v3 k x s.1 s.2.1 s.2.2) (fun (s:(List (z0u×z0o))×(List (z0u×Int))×(List Int))=>z9u s.1 s.2.1 s.2.2) 0 v2 ([],[],[]) else none
noncomputable def y0y (s1:z3a) (app2:Bs) (product3:Bs):Option (z0o):=
 if app2.length≤1000000000∧product3.length≤1000000000 then (if !((lkG s1.subs_ (z0u.mk app2 product3)).isSome) then ((y3l ).bind fun (r6:(z0o))=>some r6) else (some (z0o.mk (((lkG s1.subs_ (z0u.mk app2 product3)).getD (z0o.mk 0 [] 0 0)).State) (((lkG s1.subs_ (z0u.mk app2 product3)).getD (z0o.mk 0 [] 0 0)).Plan) (((lkG s1.subs_ (z0u.mk app2 product3)).getD (z0o.mk 0 [] 0 0)).Since) (((lkG s1.subs_ (z0u.mk app2 product3)).getD (z0o.mk 0 [] 0 0)).First)))) else none
noncomputable def y0j (k3:Nat) (x6:z0e) (m2:(List (z0e×Int))):Option ((List (z0e×Int)) ⊕ ((List (z0e×Int)))):=
 if x6.App.length≤1000000000∧x6.Product.length≤1000000000∧(-9223372036854775808≤x6.Month∧x6.Month≤9223372036854775807)∧(-9223372036854775808≤(0:Int)∧(0:Int)≤9223372036854775807) then (some (.inl (ptG m2 (z0e.mk x6.App x6.Product x6.Month 0) x6.Calls))) else none
noncomputable def y3h (m2:(List (z0e×Int))):Option ((List (z0e×Int))):=
 some m2
noncomputable def y2n (l1:(List z0e)):Option ((List (z0e×Int))):=
 if l1.length≤1000000000 then forL (fun (k:Nat) (x:z0e) (s:(List (z0e×Int)))=>y0j k x s) (fun (s:(List (z0e×Int)))=>y3h s) 0 l1 [] else none
noncomputable def z9k (u1:(List (z0e×Int))) (k2:z0u) (month3:Int):Option (Int):=
 if k2.app_.length≤1000000000∧k2.product_.length≤1000000000∧(-9223372036854775808≤month3∧month3≤9223372036854775807)∧(-9223372036854775808≤(0:Int)∧(0:Int)≤9223372036854775807) then (some ((lkG u1 (z0e.mk k2.app_ k2.product_ month3 0)).getD 0)) else none
noncomputable def y0d (v1:z0i) (v2:(List z0s)) (v3:(List z0f)) (v4:(List z0e)) (v5:Bs) (v6:Bs) (v7:Int):Option (Int×Int):=
 (y0u v1 v2 v3 v4).bind fun (r8:(Int))=>if decide (r8≠0) then (some (0,r8)) else ((y1s v1 v2 v5 v6 v7).bind fun (r11:(Int))=>if decide (r11≠0) then (some (0,r11)) else ((y0l v1 v3 v7).bind fun (r14:(z3a×(List Int)))=>(y0y r14.1 v5 v6).bind fun (r16:(z0o))=>if decide (r16.State≠2) then (some (0,11)) else ((z7z v1 r16.Plan).bind fun (r19:(z0p×Bool))=>if decide (r19.1.Limit < 0) then (some ((-1),0)) else ((y2n v4).bind fun (r22:((List (z0e×Int))))=>if ((0:Int)≤v7∧v7≤9223372036854775807)∧(0:Int) < 2592000000 then ((z9k r22 (z0u.mk v5 v6) (v7 / 2592000000)).bind fun (r25:(Int))=>some ((max 0 (wr (r19.1.Limit - r25))),0)) else none))))
noncomputable def z7e (a1:z0e) (b2:z0e):Option (Int):=
 if decide (a1.Month≠b2.Month) then ((y1u (wr (a1.Month - b2.Month))).bind fun (r4:(Int))=>some r4) else ((z2z [a1.App,a1.Product] [b2.App,b2.Product]).bind fun (r6:(Int))=>some r6)
noncomputable def z7k (v39:Bool):Option (Unit ⊕ (Int)):=
 if v39 then (some (.inr 7)) else (some (.inl ()))
noncomputable def z6f (l3:(List z0e)) (k8:Nat) (x11:z0e) (v30:Bool):Option (Unit ⊕ (Int)):=
 if v30 then (some (.inr 1)) else (if decide (0 < (k8:Int)) then ((at? l3 ((k8:Int) - 1)).bind fun (x34:z0e)=>(z7e x34 x11).bind fun (r36:(Int))=>z7k (decide (0≤r36))) else (z7k false))
noncomputable def z7l (l3:(List z0e)) (k8:Nat) (x11:z0e) (v21:Bool):Option (Unit ⊕ (Int)):=
 if v21 then (some (.inr 8)) else ((z4h x11.Month 0 132).bind fun (r23:(Bool))=>if !r23 then (z6f l3 k8 x11 true) else ((z4h x11.Calls 0 1000000000000).bind fun (r27:(Bool))=>z6f l3 k8 x11 (!r27)))
noncomputable def z9q (c1:z0i) (apps2:(List z0s)) (l3:(List z0e)) (k8:Nat) (x11:z0e):Option (Unit ⊕ (Int)):=
 (z92 apps2 x11.App).bind fun (r14:(Int))=>if decide (r14 < 0) then (z7l l3 k8 x11 true) else ((z5t c1 x11.Product).bind fun (r18:(Int))=>z7l l3 k8 x11 (decide (r18 < 0)))
noncomputable def y3e:Option (Int):=
 some 0
noncomputable def z8h (c1:z0i) (apps2:(List z0s)) (l3:(List z0e)):Option (Int):=
 (y1w c1 apps2).bind fun (r4:(Int))=>if decide (r4≠0) then some r4 else (if decide (3000 < (l3.length:Int)) then some 2 else (if l3.length≤1000000000 then forL (fun (k:Nat) (x:z0e) (s:Unit)=>z9q c1 apps2 l3 k x) (fun (s:Unit)=>y3e) 0 l3 () else none))
noncomputable def z9i (is1:Bool) (e2:Int):Option (Int):=
 if is1 then some e2 else some 0
noncomputable def z65 (v1:Int):Option (Int):=
 (y1z v1).bind fun (r2:(Bool))=>(z9i (!r2) 1).bind fun (r4:(Int))=>some r4
noncomputable def y2r (k2:Nat) (x5:Int):Option (Unit ⊕ (Int)):=
 if decide (x5≠0) then (some (.inr x5)) else (some (.inl ()))
noncomputable def y2s:Option (Int):=
 some 0
noncomputable def z73 (l1:(List Int)):Option (Int):=
 if l1.length≤1000000000 then forL (fun (k:Nat) (x:Int) (s:Unit)=>y2r k x) (fun (s:Unit)=>y2s) 0 l1 () else none
noncomputable def y15 (v5:Int) (k10:Nat) (x11:z0o):Option (Unit ⊕ (z0o)):=
 if decide (x11.Since≤v5) then (some (.inr x11)) else (some (.inl ()))
noncomputable def y16:Option (z0o):=
 (z9h ).bind fun (r15:(z0o))=>some r15
noncomputable def y07 (c1:z0i) (l2:(List z0f)) (app3:Bs) (product4:Bs) (v5:Int):Option (z0o):=
 (y1y c1 l2 app3 product4).bind fun (r6:((List z0o)×(List Int)))=>if r6.1.length≤1000000000 then back (fun (k:Nat) (x:z0o) (s:Unit)=>y15 v5 k x) (fun (s:Unit)=>y16) r6.1 r6.1.length () else none
noncomputable def z8z (app2:Bs) (product3:Bs) (month4:Int) (k5:Nat) (x8:z0e):Option (Unit ⊕ (Int)):=
 if (((decide (x8.App=app2)) && (decide (x8.Product=product3))) && (decide (x8.Month=month4))) then (some (.inr x8.Calls)) else (some (.inl ()))
noncomputable def y2h:Option (Int):=
 some 0
noncomputable def y1a (l1:(List z0e)) (app2:Bs) (product3:Bs) (month4:Int):Option (Int):=
 if l1.length≤1000000000 then forL (fun (k:Nat) (x:z0e) (s:Unit)=>z8z app2 product3 month4 k x) (fun (s:Unit)=>y2h) 0 l1 () else none
noncomputable def y10 (c1:z0i) (s2:z0o) (uses3:(List z0e)) (app4:Bs) (product5:Bs) (v6:Int):Option (Int):=
 (z3v c1 s2.Plan).bind fun (r7:(Int))=>(at? c1.Plans r7).bind fun (x9:z0p)=>if decide (x9.Limit < 0) then (some (-1)) else (if ((0:Int)≤v6∧v6≤9223372036854775807)∧(0:Int) < 2592000000 then ((y1a uses3 app4 product5 (v6 / 2592000000)).bind fun (r13:(Int))=>some (max 0 (wr (x9.Limit - r13)))) else none)
noncomputable def z8v (u1:z0e):Option (Bool):=
 some (decide (1000000000000 < u1.Calls))
noncomputable def z9x (out31:(List z0e)):Option ((List z0e) ⊕ ((List z0e)×Int)):=
 some (.inl out31)
noncomputable def z79 (l8:(List z0e)) (x17:z0e) (v26:Bool):Option ((List z0e) ⊕ ((List z0e)×Int)):=
 if v26 then ((at? l8 (wr ((l8.length:Int) - 1))).bind fun (x28:z0e)=>z9x (l8.set ((wr ((l8.length:Int) - 1)).toNat) (z0e.mk x28.App x28.Product x28.Month (wr (x28.Calls+x17.Calls))))) else (if l8.length+1≤1000000000 then (z9x (l8++[x17])) else none)
noncomputable def y24 (r5:((List z0e))) (k9:Nat) (l8:(List z0e)):Option ((List z0e) ⊕ ((List z0e)×Int)):=
 (r5[k9]?).bind fun (x17:z0e)=>if decide (0≤(wr ((l8.length:Int) - 1))) then ((at? l8 (wr ((l8.length:Int) - 1))).bind fun (x21:z0e)=>(z7e x21 x17).bind fun (r23:(Int))=>z79 l8 x17 (decide (r23=0))) else (z79 l8 x17 false)
noncomputable def y25 (l8:(List z0e)):Option ((List z0e)×Int):=
 if decide (3000 < (l8.length:Int)) then (some ([],2)) else ((z2r l8 (fun (a0:z0e)=>z8v a0)).bind fun (r13:(Bool))=>if r13 then (some ([],1)) else (some (l8,0)))
noncomputable def y1x (a1:(List z0e)) (b2:(List z0e)):Option ((List z0e)×Int):=
 (z3c [a1,b2]).bind fun (r3:((List z0e)))=>(z1z r3 (fun (a0:z0e) (a1:z0e)=>z7e a0 a1)).bind fun (r5:((List z0e)))=>if r5.length=r3.length then (if r5.length≤1000000000 then rng (fun (k:Nat) (s:(List z0e))=>y24 r5 k s) (fun (s:(List z0e))=>y25 s) r5.length 0 [] else none) else none
noncomputable def z7u (s2:(List z0e)) (k4:Nat) (x7:z0e):Option (Unit ⊕ (Bool)):=
 (s2[k4]?).bind fun (x10:z0e)=>if (!((x7.App == x10.App) && ((x7.Product == x10.Product) && ((x7.Month == x10.Month) && ((x7.Calls == x10.Calls) && true))))) then (some (.inr false)) else (some (.inl ()))
noncomputable def z7v:Option (Bool):=
 some true
noncomputable def z50 (s1:(List z0e)) (s2:(List z0e)):Option (Bool):=
 if decide ((s1.length:Int)≠(s2.length:Int)) then some false else (if s1.length≤1000000000 then forL (fun (k:Nat) (x:z0e) (s:Unit)=>z7u s2 k x) (fun (s:Unit)=>z7v) 0 s1 () else none)
noncomputable def y0q (sum3:Int) (x7:z02) (to14:Int):Option (Int ⊕ (Int)):=
 some (.inl (wr (sum3+(wr ((max 0 (wr ((wr (to14 - x7.From))+1))) * x7.Cents)))))
noncomputable def y0p (p1:z0p) (calls2:Int) (k4:Nat) (x7:z02) (sum3:Int):Option (Int ⊕ (Int)):=
 if decide (((k4:Int)+1) < (p1.Tiers.length:Int)) then ((p1.Tiers[(k4+1)]?).bind fun (x12:z02)=>y0q sum3 x7 (min (max 0 (wr (calls2 - p1.Free))) (wr (x12.From - 1)))) else (y0q sum3 x7 (max 0 (wr (calls2 - p1.Free))))
noncomputable def y1r (sum3:Int):Option (Int):=
 if ((0:Int)≤sum3∧sum3≤9223372036854775807)∧(0:Int) < 1000 then (some (sum3 / 1000)) else none
noncomputable def y3x (p1:z0p) (calls2:Int):Option (Int):=
 if p1.Tiers.length≤1000000000 then forL (fun (k:Nat) (x:z02) (s:Int)=>y0p p1 calls2 k x s) (fun (s:Int)=>y1r s) 0 p1.Tiers 0 else none
noncomputable def y3y (c1:z0i) (plan2:Bs) (calls3:Int):Option (Int×Int):=
 (z6b c1).bind fun (r4:(Int))=>if decide (r4≠0) then (some (0,r4)) else ((z7z c1 plan2).bind fun (r7:(z0p×Bool))=>if !r7.2 then (some (0,8)) else ((z6r calls3 0 1000000000000).bind fun (r10:(Bool))=>if r10 then (some (0,1)) else ((y3x r7.1 calls3).bind fun (r13:(Int))=>some (r13,0))))
noncomputable def y11  : Option (Bool):=
 (y3y (z0i.mk ([(z0r.mk [112] [])]) ([(z0p.mk [113] [112] 0 0 [(z02.mk 1 2000)] 0 0 false)])) [113] 3).bind fun (r1:(Int×Int))=>some ((decide (r1.2=0)) && (decide (r1.1=6)))
noncomputable def z4j (v80:Bool):Option (Bool):=
 some v80
noncomputable def z6h (r16:((List z0e)×Int)) (r18:(Int×Int)) (v53:Int) (v54:Int) (v62:Int) (v63:(List z0e)):Option (Bool):=
 if decide (r16.2=v62) then ((z50 r16.1 v63).bind fun (r66:(Bool))=>if r66 then (if decide (r18.2=v53) then (if decide (r18.1=v54) then ((y11 ).bind fun (r74:(Bool))=>z4j r74) else (z4j false)) else (z4j false)) else (z4j false)) else (z4j false)
noncomputable def z41 (r4:(z0i×(List z0s)×(List z0f)×Int×z0d)) (r6:((List z0e)×z0d)) (r8:((List z0e)×z0d)) (r16:((List z0e)×Int)) (r18:(Int×Int)) (r20:(Int)) (v53:Int) (v54:Int):Option (Bool):=
 (z8h r4.1 r4.2.1 r8.1).bind fun (r55:(Int))=>(z73 [r20,r55]).bind fun (r57:(Int))=>if decide (r57=0) then ((y1x r6.1 r8.1).bind fun (r60:((List z0e)×Int))=>z6h r16 r18 v53 v54 r60.2 r60.1) else (z6h r16 r18 v53 v54 r57 [])
noncomputable def z6i (r4:(z0i×(List z0s)×(List z0f)×Int×z0d)) (r6:((List z0e)×z0d)) (r8:((List z0e)×z0d)) (r10:(Bs×z0d)) (r12:(Bs×z0d)) (r14:(Int×z0d)) (r16:((List z0e)×Int)) (r18:(Int×Int)) (r20:(Int)) (v44:Int):Option (Bool):=
 if decide (v44=0) then ((y07 r4.1 r4.2.2.1 r10.1 r12.1 r14.1).bind fun (r46:(z0o))=>(z9i (decide (r46.State≠2)) 11).bind fun (r48:(Int))=>if decide (r48=0) then ((y10 r4.1 r46 r6.1 r10.1 r12.1 r14.1).bind fun (r51:(Int))=>z41 r4 r6 r8 r16 r18 r20 r48 r51) else (z41 r4 r6 r8 r16 r18 r20 r48 0)) else (z41 r4 r6 r8 r16 r18 r20 v44 0)
noncomputable def y1o (v1:(List Int)):Option (Bool):=
 (z4i (z0d.mk v1 0) 0 8).bind fun (r2:(Int×z0d))=>(y12 r2.2 r2.1).bind fun (r4:(z0i×(List z0s)×(List z0f)×Int×z0d))=>(z64 r4.2.2.2.2 r4.2.1).bind fun (r6:((List z0e)×z0d))=>(z64 r6.2 r4.2.1).bind fun (r8:((List z0e)×z0d))=>(z4v r8.2).bind fun (r10:(Bs×z0d))=>(z3m r10.2).bind fun (r12:(Bs×z0d))=>(z5c r12.2).bind fun (r14:(Int×z0d))=>(y3a r4.1 r4.2.1 r6.1 r8.1).bind fun (r16:((List z0e)×Int))=>(y0d r4.1 r4.2.1 r4.2.2.1 r6.1 r10.1 r12.1 r14.1).bind fun (r18:(Int×Int))=>(z8h r4.1 r4.2.1 r6.1).bind fun (r20:(Int))=>(z52 r4.1 r4.2.1 r6.1).bind fun (r22:(Int))=>if decide (r22≠r20) then some false else ((z92 r4.2.1 r10.1).bind fun (r25:(Int))=>if decide (r25 < 0) then ((z9i true 8).bind fun (r38:(Int))=>(z65 r14.1).bind fun (r40:(Int))=>(z73 [r4.2.2.2.1,r20,r38,r40]).bind fun (r42:(Int))=>z6i r4 r6 r8 r10 r12 r14 r16 r18 r20 r42) else ((z5t r4.1 r12.1).bind fun (r29:(Int))=>(z9i (decide (r29 < 0)) 8).bind fun (r31:(Int))=>(z65 r14.1).bind fun (r33:(Int))=>(z73 [r4.2.2.2.1,r20,r31,r33]).bind fun (r35:(Int))=>z6i r4 r6 r8 r10 r12 r14 r16 r18 r20 r35))
end Go.Proofs.YthmmalklamiefaaGreatDoor
