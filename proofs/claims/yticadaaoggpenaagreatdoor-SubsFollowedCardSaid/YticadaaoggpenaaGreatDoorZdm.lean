/- Plain models of functions. Printed by a program. -/
import Derived.Test.YticadaaoggpenaaGreatDoorMc
import Derived.Test.YticadaaoggpenaaGreatDoorRng
import Derived.Test.YticadaaoggpenaaGreatDoorMl
namespace Go.Proofs.YticadaaoggpenaaGreatDoor
set_option linter.unusedVariables false
set_option maxRecDepth 20000
structure z0d where
 L:(List Int)
 at_:Int
structure z0m where
 Key:Bs
 Scopes:(List Bs)
structure z01 where
 From:Int
 Cents:Int
structure z0o where
 Key:Bs
 Product:Bs
 Base:Int
 Free:Int
 Tiers:(List z01)
 Limit:Int
 Trial:Int
 Asked:Bool
structure z0g where
 Products:(List z0m)
 Plans:(List z0o)
structure z0t where
 Key:Bs
 Owner:Bs
structure z0e where
 At:Int
 App:Bs
 Product:Bs
 Kind:Int
 Plan:Bs
structure z0h where
 State:Int
 Plan:Bs
 Since:Int
 First:Int
structure z0q where
 app_:Bs
 product_:Bs
structure z17 where
 subs_:(List (z0q×z0h))
 asks_:(List (z0q×Int))
noncomputable def z81 (x6:Int):Option (Int):=
 some x6
noncomputable def z8n (x1:Int) (n2:Int):Option (Int):=
 if decide (n2 < 1) then some 0 else (if n2≠0 then (if decide ((Int.tmod x1 n2) < 0) then (z81 (wr ((Int.tmod x1 n2)+n2))) else (z81 (Int.tmod x1 n2))) else none)
noncomputable def z2a (s1:z0d) (n2:Int):Option (Int×z0d):=
 if decide ((s1.L.length:Int)=0) then ((z8n (wr ((wr (s1.at_+1)) * 7919)) n2).bind fun (r4:(Int))=>some (r4,(z0d.mk s1.L (wr (s1.at_+1))))) else (if (s1.L.length:Int)≠0 then (if ((0:Int)≤(wr ((wr (s1.at_+1)) - 1))∧(wr ((wr (s1.at_+1)) - 1))≤9223372036854775807)∧(0:Int) < (s1.L.length:Int) then ((at? s1.L (Int.tmod (wr ((wr (s1.at_+1)) - 1)) (s1.L.length:Int))).bind fun (x8:Int)=>(z8n x8 1073741824).bind fun (r10:(Int))=>(z8n (wr (r10+(wr (((wr ((wr (s1.at_+1)) - 1)) / (s1.L.length:Int)) * (wr (7919+(Int.tmod (wr ((wr (s1.at_+1)) - 1)) (s1.L.length:Int)))))))) n2).bind fun (r12:(Int))=>some (r12,(z0d.mk s1.L (wr (s1.at_+1))))) else none) else none)
noncomputable def z3t (s1:z0d) (low2:Int) (high3:Int):Option (Int×z0d):=
 if decide (high3 < low2) then (some (low2,s1)) else ((z2a s1 (wr ((wr (high3 - low2))+1))).bind fun (r5:(Int×z0d))=>some (wr (low2+r5.1),r5.2))
noncomputable def z1o (s1:z0d) (n2:Int):Option (Bool×z0d):=
 (z2a s1 n2).bind fun (r3:(Int×z0d))=>some (decide (r3.1=0),r3.2)
noncomputable def z1g (s1:z0d) (l2:(List Bs)):Option (Bs×z0d):=
 (z2a s1 (l2.length:Int)).bind fun (r3:(Int×z0d))=>(at? l2 r3.1).bind fun (x5:Bs)=>some (x5,r3.2)
noncomputable def z1c (s1:z0d) (l2:(List Int)):Option (Int×z0d):=
 (z2a s1 (l2.length:Int)).bind fun (r3:(Int×z0d))=>(at? l2 r3.1).bind fun (x5:Int)=>some (x5,r3.2)
noncomputable def z2l (s1:z0d) (low2:Int) (high3:Int):Option (Int×z0d):=
 (z1o s1 12).bind fun (r4:(Bool×z0d))=>if r4.1 then ((z1c r4.2 [wr (low2 - 1),wr (high3+1),low2,high3,(-1099511627776),1099511627776]).bind fun (r7:(Int×z0d))=>some (r7.1,r7.2)) else ((z3t r4.2 low2 high3).bind fun (r9:(Int×z0d))=>some (r9.1,r9.2))
noncomputable def z3n (k7:Nat) (c4:(List Int)) (c5:Int) (l6:(List Bs)):Option (((List Int)×Int×(List Bs)) ⊕ ((List Bs)×z0d)):=
 (z1g (z0d.mk c4 c5) ([[97],[97,58,42],[97,58,98],[97,58,98,58,42],[97,58,98,58,99],[98],[98,58,42],[98,58,99],[42]])).bind fun (r11:(Bs×z0d))=>if l6.length+1≤1000000000 then (some (.inl (r11.2.L,r11.2.at_,(l6++[r11.1])))) else none
noncomputable def z4f (c4:(List Int)) (c5:Int) (l6:(List Bs)):Option ((List Bs)×z0d):=
 some (l6,(z0d.mk c4 c5))
noncomputable def z2k (s1:z0d):Option ((List Bs)×z0d):=
 (z3t s1 0 4).bind fun (r2:(Int×z0d))=>if r2.1≤1000000000 then rng (fun (k:Nat) (s:(List Int)×Int×(List Bs))=>z3n k s.1 s.2.1 s.2.2) (fun (s:(List Int)×Int×(List Bs))=>z4f s.1 s.2.1 s.2.2) r2.1.toNat 0 (r2.2.L,r2.2.at_,[]) else none
noncomputable def z6q (s1:z0d):Option (Bs×z0d):=
 (z1o s1 25).bind fun (r2:(Bool×z0d))=>if r2.1 then ((y07 [97,58] 10).bind fun (r5:(Bs))=>if r5.length+[97].length≤1000000000 then ((z1g r2.2 ([[],[97,58,42,58,98],[65],[97,58,58,98],[97,58],[42,42],[97,42],(r5++[97])])).bind fun (r8:(Bs×z0d))=>some (r8.1,r8.2)) else none) else ((z1g r2.2 ([[42],[97],[97,58,42],[97,58,98],[97,58,98,58,42],[97,58,98,58,99],[98],[98,58,42],[98,58,99],[99]])).bind fun (r10:(Bs×z0d))=>some (r10.1,r10.2))
noncomputable def z4u (out17:(List Bs)) (c18:(List Int)) (c19:Int):Option ((List Bs)×z0d):=
 some (out17,(z0d.mk c18 c19))
noncomputable def z3w (out10:(List Bs)) (c11:(List Int)) (c12:Int):Option ((List Bs)×z0d):=
 (z1o (z0d.mk c11 c12) 60).bind fun (r13:(Bool×z0d))=>if r13.1 then (if 51≤1000000000 then (z4u (List.replicate 51 []) r13.2.L r13.2.at_) else none) else (z4u out10 r13.2.L r13.2.at_)
noncomputable def z59 (s1:z0d):Option ((List Bs)×z0d):=
 (z2k s1).bind fun (r2:((List Bs)×z0d))=>(z1o r2.2 6).bind fun (r4:(Bool×z0d))=>if r4.1 then ((z6q r4.2).bind fun (r7:(Bs×z0d))=>if r2.1.length+1≤1000000000 then (z3w (r2.1++[r7.1]) r7.2.L r7.2.at_) else none) else (z3w r2.1 r4.2.L r4.2.at_)
noncomputable def z3g (k34:Nat) (v30:Int) (l31:(List z01)) (c32:(List Int)) (c33:Int):Option ((Int×(List z01)×(List Int)×Int) ⊕ (((List z0o)×(List Int)×Int) ⊕ (z0g×z0d))):=
 (z1c (z0d.mk c32 c33) [0,100,500,1500]).bind fun (r39:(Int×z0d))=>if l31.length+1≤1000000000 then ((z1c r39.2 [1,9,100]).bind fun (r42:(Int×z0d))=>some (.inl (wr (v30+r42.1),(l31++[(z01.mk v30 r39.1)]),r42.2.L,r42.2.at_))) else none
noncomputable def z1t (c44:(List Int)) (c45:Int) (l46:(List z0o)):Option (((List z0o)×(List Int)×Int) ⊕ (z0g×z0d)):=
 some (.inl (l46,c44,c45))
noncomputable def z3i (l4:(List z0o)) (x10:Bs) (r16:(Bs×z0d)) (r18:(Int×z0d)) (r20:(Int×z0d)) (r22:(Int×z0d)) (r24:(Int×z0d)) (r26:(Bool×z0d)) (v30:Int) (l31:(List z01)) (c32:(List Int)) (c33:Int):Option (((List z0o)×(List Int)×Int) ⊕ (z0g×z0d)):=
 if l4.length+1≤1000000000 then (z1t c32 c33 (l4++[(z0o.mk x10 r16.1 r18.1 r20.1 l31 r22.1 r24.1 r26.1)])) else none
noncomputable def z3h (k7:Nat) (x10:Bs) (l4:(List z0o)) (c5:(List Int)) (c6:Int):Option (((List z0o)×(List Int)×Int) ⊕ (z0g×z0d)):=
 (z1o (z0d.mk c5 c6) 5).bind fun (r13:(Bool×z0d))=>if r13.1 then (z1t r13.2.L r13.2.at_ l4) else ((z1g r13.2 ([[115,104,111,112],[115,104,111,112],[109,97,112,115]])).bind fun (r16:(Bs×z0d))=>(z1c r16.2 [0,0,1000,3000,31]).bind fun (r18:(Int×z0d))=>(z1c r18.2 [0,10,100]).bind fun (r20:(Int×z0d))=>(z1c r20.2 [(-1),(-1),0,1000]).bind fun (r22:(Int×z0d))=>(z1c r22.2 [0,0,1,2]).bind fun (r24:(Int×z0d))=>(z1o r24.2 2).bind fun (r26:(Bool×z0d))=>(z1c r26.2 [0,1,2,3]).bind fun (r28:(Int×z0d))=>if r28.1≤1000000000 then rng (fun (k:Nat) (s:Int×(List z01)×(List Int)×Int)=>z3g k s.1 s.2.1 s.2.2.1 s.2.2.2) (fun (s:Int×(List z01)×(List Int)×Int)=>z3i l4 x10 r16 r18 r20 r22 r24 r26 s.1 s.2.1 s.2.2.1 s.2.2.2) r28.1.toNat 0 (1,([]:List z01),r28.2.L,r28.2.at_) else none)
noncomputable def z3j (r2:((List Bs)×z0d)) (l4:(List z0o)) (c5:(List Int)) (c6:Int):Option (z0g×z0d):=
 some ((z0g.mk ([(z0m.mk [109,97,112,115] r2.1),(z0m.mk [115,104,111,112] ([[111,114,100,101,114,115]]))]) l4),(z0d.mk c5 c6))
noncomputable def z2t (s1:z0d):Option (z0g×z0d):=
 (z2k s1).bind fun (r2:((List Bs)×z0d))=>if ([[98,105,103],[102,114,101,101],[109,105,100],[115,109,97,108,108]]).length≤1000000000 then forL (fun (k:Nat) (x:Bs) (s:(List z0o)×(List Int)×Int)=>z3h k x s.1 s.2.1 s.2.2) (fun (s:(List z0o)×(List Int)×Int)=>z3j r2 s.1 s.2.1 s.2.2) 0 ([[98,105,103],[102,114,101,101],[109,105,100],[115,109,97,108,108]]) (([]:List z0o),r2.2.L,r2.2.at_) else none
noncomputable def z7t (c:z0g) (s:z0d):Option (z0g×z0d):=
 (z2a s (c.Plans.length:Int)).bind fun (r13:(Int×z0d))=>(at? c.Plans r13.1).bind fun (x15:z0o)=>(z2a r13.2 6).bind fun (r17:(Int×z0d))=>if decide (r17.1=0) then ((z1g r17.2 ([[],[65],[98,105,103]])).bind fun (r20:(Bs×z0d))=>some ((z0g.mk c.Products (c.Plans.set r13.1.toNat (z0o.mk r20.1 x15.Product x15.Base x15.Free x15.Tiers x15.Limit x15.Trial x15.Asked))),r20.2)) else (if decide (r17.1=1) then ((z1g r17.2 ([[110,111,110,101],[]])).bind fun (r20:(Bs×z0d))=>some ((z0g.mk c.Products (c.Plans.set r13.1.toNat (z0o.mk x15.Key r20.1 x15.Base x15.Free x15.Tiers x15.Limit x15.Trial x15.Asked))),r20.2)) else (if decide (r17.1=2) then ((z2l r17.2 0 1000).bind fun (r20:(Int×z0d))=>(z2l r20.2 0 1000).bind fun (r22:(Int×z0d))=>some ((z0g.mk c.Products (c.Plans.set r13.1.toNat (z0o.mk x15.Key x15.Product r20.1 r22.1 x15.Tiers x15.Limit x15.Trial x15.Asked))),r22.2)) else (if decide (r17.1=3) then ((z2l r17.2 1 100).bind fun (r20:(Int×z0d))=>(z2l r20.2 0 1000000).bind fun (r22:(Int×z0d))=>if x15.Tiers.length+1≤1000000000 then some ((z0g.mk c.Products (c.Plans.set r13.1.toNat (z0o.mk x15.Key x15.Product x15.Base x15.Free (x15.Tiers++[(z01.mk r20.1 r22.1)]) x15.Limit x15.Trial x15.Asked))),r22.2) else none) else (if decide (r17.1=4) then ((z2l r17.2 (-1) 100).bind fun (r20:(Int×z0d))=>(z2l r20.2 0 132).bind fun (r22:(Int×z0d))=>some ((z0g.mk c.Products (c.Plans.set r13.1.toNat (z0o.mk x15.Key x15.Product x15.Base x15.Free x15.Tiers r20.1 r22.1 x15.Asked))),r22.2)) else ((z1g r17.2 ([[122,122],[115,104,111,112],[]])).bind fun (r20:(Bs×z0d))=>(z59 r20.2).bind fun (r22:((List Bs)×z0d))=>if c.Products.length+1≤1000000000 then some ((z0g.mk (c.Products++[(z0m.mk r20.1 r22.1)]) c.Plans),r22.2) else none)))))
noncomputable def z5y (s1:z0d):Option (z0g×z0d):=
 (z2t s1).bind fun (r2:(z0g×z0d))=>if decide ((r2.1.Plans.length:Int) > 0) then ((z1o r2.2 12).bind fun (r6:(Bool×z0d))=>if r6.1 then z7t r2.1 r6.2 else some (r2.1,r6.2)) else some (r2.1,r2.2)
noncomputable def z48 (s1:z0d):Option ((List z0t)×z0d):=
 (z1g s1 ([[97,110,110],[98,111,98]])).bind fun (r2:(Bs×z0d))=>(z1c r2.2 [1,2,3,3]).bind fun (r4:(Int×z0d))=>if (0:Int)≤r4.1∧r4.1≤(([(z0t.mk [97,112,112,49] [97,110,110]),(z0t.mk [97,112,112,50] r2.1),(z0t.mk [97,112,112,51] [98,111,98])]:(List z0t)).length:Int) then (some ((([(z0t.mk [97,112,112,49] [97,110,110]),(z0t.mk [97,112,112,50] r2.1),(z0t.mk [97,112,112,51] [98,111,98])]:(List z0t)).take r4.1.toNat),r4.2)) else none
noncomputable def z5l (out12:(List z0t)) (c13:(List Int)) (c14:Int):Option ((List z0t)×z0d):=
 some (out12,(z0d.mk c13 c14))
noncomputable def z67 (s1:z0d):Option ((List z0t)×z0d):=
 (z48 s1).bind fun (r2:((List z0t)×z0d))=>(z1o r2.2 20).bind fun (r4:(Bool×z0d))=>if r4.1 then ((z1g r4.2 ([[],[97,112,112,49],[122,122]])).bind fun (r7:(Bs×z0d))=>(z1g r7.2 ([[97,110,110],[]])).bind fun (r9:(Bs×z0d))=>if r2.1.length+1≤1000000000 then (z5l (r2.1++[(z0t.mk r7.1 r9.1)]) r9.2.L r9.2.at_) else none) else (z5l r2.1 r4.2.L r4.2.at_)
noncomputable def z3l (i4:Int) (data28:(List z0e)):Option ((Int×(List z0e)) ⊕ ((List z0e))):=
 some (.inl (wr (i4+1),data28))
noncomputable def z2o (i4:Int) (j8:Int) (l9:(List z0e)) (v20:Bool):Option ((Int×(List z0e)) ⊕ ((Int×(List z0e)) ⊕ ((List z0e)))):=
 if v20 then ((at? l9 (wr (j8 - 1))).bind fun (x22:z0e)=>(at? l9 j8).bind fun (x24:z0e)=>(at? (l9.set j8.toNat x22) (wr (j8 - 1))).bind fun (x26:z0e)=>some (.inl (wr (j8 - 1),((l9.set j8.toNat x22).set ((wr (j8 - 1)).toNat) x24)))) else (Option.map .inr (z3l i4 l9))
noncomputable def z4z (a2:Int) (p3:z0e→z0e→Option (Int)) (i4:Int) (j8:Int) (l9:(List z0e)):Option ((Int×(List z0e)) ⊕ ((Int×(List z0e)) ⊕ ((List z0e)))):=
 if decide (a2 < j8) then ((at? l9 j8).bind fun (x13:z0e)=>(at? l9 (wr (j8 - 1))).bind fun (x15:z0e)=>(p3 x13 x15).bind fun (r17:Int)=>z2o i4 j8 l9 (decide (r17 < 0))) else (z2o i4 j8 l9 false)
noncomputable def z40 (a2:Int) (b3:Int) (p3:z0e→z0e→Option (Int)) (i4:Int) (l5:(List z0e)):Option ((Int×(List z0e)) ⊕ ((List z0e))):=
 if decide (i4 < b3) then (iter (fun (s:Int×(List z0e))=>z4z a2 p3 i4 s.1 s.2) (i4,l5)) else (some (.inr l5))
noncomputable def z3p (data1:(List z0e)) (a2:Int) (b3:Int) (p3:z0e→z0e→Option (Int)):Option ((List z0e)):=
 iter (fun (s:Int×(List z0e))=>z40 a2 b3 p3 s.1 s.2) (wr (a2+1),data1)
noncomputable def z4p (blockSize16:Int):Option (Int ⊕ ((List z0e))):=
 some (.inl (wr (blockSize16 * 2)))
noncomputable def z4q (n2:Int) (blockSize16:Int) (a23:Int):Option (Int ⊕ ((List z0e))):=
 if decide ((wr (a23+blockSize16)) < n2) then none else (z4p blockSize16)
noncomputable def z6j (n2:Int) (blockSize16:Int) (a19:Int) (b20:Int):Option ((Int×Int) ⊕ (Int ⊕ ((List z0e)))):=
 if decide (b20≤n2) then none else (Option.map .inr (z4q n2 blockSize16 a19))
noncomputable def z6k (n2:Int) (r13:((List z0e))) (blockSize16:Int):Option (Int ⊕ ((List z0e))):=
 if decide (blockSize16 < n2) then (iter (fun (s:Int×Int)=>z6j n2 blockSize16 s.1 s.2) (0,wr (2 * blockSize16))) else (some (.inr r13))
noncomputable def z4r (n2:Int) (p2:z0e→z0e→Option (Int)) (a11:Int) (data12:(List z0e)):Option ((List z0e)):=
 (z3p data12 a11 n2 p2).bind fun (r13:((List z0e)))=>if r13.length=data12.length then (iter (fun (s:Int)=>z6k n2 r13 s) 20) else none
noncomputable def z6l (n2:Int) (p2:z0e→z0e→Option (Int)) (a3:Int) (b4:Int) (l5:(List z0e)):Option ((Int×Int×(List z0e)) ⊕ ((List z0e))):=
 if decide (b4≤n2) then ((z3p l5 a3 b4 p2).bind fun (r8:((List z0e)))=>if r8.length=l5.length then (some (.inl (b4,wr (b4+20),r8))) else none) else (Option.map .inr (z4r n2 p2 a3 l5))
noncomputable def z42 (data1:(List z0e)) (n2:Int) (p2:z0e→z0e→Option (Int)):Option ((List z0e)):=
 iter (fun (s:Int×Int×(List z0e))=>z6l n2 p2 s.1 s.2.1 s.2.2) (0,20,data1)
noncomputable def z1z (x1:(List z0e)) (p1:z0e→z0e→Option (Int)):Option ((List z0e)):=
 (z42 x1 (x1.length:Int) p1).bind fun (r2:((List z0e)))=>if r2.length=x1.length then some r2 else none
noncomputable def y1t (n1:Int):Option (Int):=
 if decide (n1 < 0) then (some (-1)) else (if decide (0 < n1) then some 1 else some 0)
noncomputable def z9d (x1:Bs):Option (Bool):=
 some (decide (x1≠x1))
noncomputable def z7z (x1:Bs) (y2:Bs):Option (Int):=
 (z9d x1).bind fun (r3:(Bool))=>(z9d y2).bind fun (r5:(Bool))=>if r3 then (if r5 then some 0 else (some (-1))) else (if r5 then some 1 else (if Op.bytesLess x1 y2 then (some (-1)) else (if (!(Op.bytesLess x1 y2 || x1 == y2)) then some 1 else some 0)))
noncomputable def z4s (s2:(List Bs)) (k3:Nat) (x6:Bs):Option (Unit ⊕ (Int)):=
 if decide ((s2.length:Int)≤(k3:Int)) then (some (.inr 1)) else ((s2[k3]?).bind fun (x11:Bs)=>(z7z x6 x11).bind fun (r13:(Int))=>if decide (r13≠0) then (some (.inr r13)) else (some (.inl ())))
noncomputable def z4t (s1:(List Bs)) (s2:(List Bs)):Option (Int):=
 if decide ((s1.length:Int) < (s2.length:Int)) then (some (-1)) else some 0
noncomputable def z2w (s1:(List Bs)) (s2:(List Bs)):Option (Int):=
 if s1.length≤1000000000 then forL (fun (k:Nat) (x:Bs) (s:Unit)=>z4s s2 k x) (fun (s:Unit)=>z4t s1 s2) 0 s1 () else none
noncomputable def z3a (a1:z0e) (b2:z0e):Option (Int):=
 if decide (a1.At≠b2.At) then ((y1t (wr (a1.At - b2.At))).bind fun (r4:(Int))=>some r4) else ((z2w [a1.App,a1.Product] [b2.App,b2.Product]).bind fun (r6:(Int))=>some r6)
noncomputable def z2g (v15:Int) (v28:Int) (v29:(List z0e)):Option ((Int×Int×(List z0e)) ⊕ (Int ⊕ ((List z0e)))):=
 some (.inl (v28,wr (v15+1),v29))
noncomputable def z22 (v30:Int) (v31:(List z0e)):Option (Int ⊕ ((List z0e))):=
 if (0:Int)≤v30∧v30 < (v31.length:Int) then (if (0:Int)≤v30∧v30≤((v31.take v30.toNat++List.replicate (v31.length - v30.toNat) (z0e.mk 0 [] [] 0 [])).length:Int) then (some (.inr ((v31.take v30.toNat++List.replicate (v31.length - v30.toNat) (z0e.mk 0 [] [] 0 [])).take v30.toNat))) else none) else none
noncomputable def z4b (p1:z0e→z0e→Option (Bool)) (v3:Int) (v14:Int) (v15:Int) (l16:(List z0e)):Option ((Int×Int×(List z0e)) ⊕ (Int ⊕ ((List z0e)))):=
 if decide (v15 < ((l16.drop v3.toNat).length:Int)) then ((at? (l16.drop v3.toNat) v15).bind fun (x19:z0e)=>(at? (l16.drop v3.toNat) (wr (v15 - 1))).bind fun (x21:z0e)=>(p1 x19 x21).bind fun (r23:Bool)=>if !r23 then ((at? l16 v14).bind fun (x26:z0e)=>z2g v15 (wr (v14+1)) (l16.set v14.toNat x19)) else (z2g v15 v14 l16)) else (Option.map .inr (z22 v14 l16))
noncomputable def z23 (v1:(List z0e)):Option ((List z0e)):=
 some v1
noncomputable def z4c (v1:(List z0e)) (p1:z0e→z0e→Option (Bool)) (v3:Int):Option (Int ⊕ ((List z0e))):=
 if decide (v3 < (v1.length:Int)) then ((at? v1 v3).bind fun (x6:z0e)=>(at? v1 (wr (v3 - 1))).bind fun (x8:z0e)=>(p1 x6 x8).bind fun (r10:Bool)=>if r10 then (if (0:Int)≤v3∧v3 < (v1.length:Int) then (iter (fun (s:Int×Int×(List z0e))=>z4b p1 v3 s.1 s.2.1 s.2.2) (v3,1,v1)) else none) else (some (.inl (wr (v3+1))))) else (Option.map .inr (z23 v1))
noncomputable def z4l (v1:(List z0e)) (p1:z0e→z0e→Option (Bool)):Option ((List z0e)):=
 if decide ((v1.length:Int) < 2) then some v1 else (iter (fun (s:Int)=>z4c v1 p1 s) 1)
noncomputable def z5m (a1:z0e) (b2:z0e):Option (Bool):=
 (z3a a1 b2).bind fun (r3:(Int))=>some (decide (r3=0))
noncomputable def z4m (n1:Int) (low2:Int) (high3:Int):Option (Bool):=
 some ((decide (low2≤n1)) && (decide (n1≤high3)))
noncomputable def y2k (some2:Bs) (k3:Nat) (x6:UInt8):Option (Unit ⊕ (Bool)):=
 (y2n some2 (x6.toNat:Int)).bind fun (r9:(Int))=>if decide (r9 < 0) then (some (.inr false)) else (some (.inl ()))
noncomputable def y30:Option (Bool):=
 some true
noncomputable def y0l (s1:Bs) (some2:Bs):Option (Bool):=
 if s1.length≤1000000000 then forL (fun (k:Nat) (x:UInt8) (s:Unit)=>y2k some2 k x) (fun (s:Unit)=>y30) 0 s1 () else none
noncomputable def z9h (v16:Bool):Option (Bool):=
 some v16
noncomputable def z7n (s1:Bs):Option (Bool):=
 (z4m (s1.length:Int) 1 40).bind fun (r2:(Bool))=>if r2 then ((sub? s1 0 1).bind fun (l6:Bs)=>(y0l l6 [97,98,99,100,101,102,103,104,105,106,107,108,109,110,111,112,113,114,115,116,117,118,119,120,121,122]).bind fun (r8:(Bool))=>if r8 then ((y0l s1 [97,98,99,100,101,102,103,104,105,106,107,108,109,110,111,112,113,114,115,116,117,118,119,120,121,122,48,49,50,51,52,53,54,55,56,57,45,95]).bind fun (r12:(Bool))=>z9h r12) else (z9h false)) else (z9h false)
noncomputable def z3y (p1:z0m→Option (Bool)) (k2:Nat) (x5:z0m):Option (Unit ⊕ (Int)):=
 (p1 x5).bind fun (r8:Bool)=>if r8 then (some (.inr (k2:Int))) else (some (.inl ()))
noncomputable def z3z:Option (Int):=
 some (-1)
noncomputable def z2u (s1:(List z0m)) (p1:z0m→Option (Bool)):Option (Int):=
 if s1.length≤1000000000 then forL (fun (k:Nat) (x:z0m) (s:Unit)=>z3y p1 k x) (fun (s:Unit)=>z3z) 0 s1 () else none
noncomputable def z5u (p1:z0m) (c2:Bs):Option (Bool):=
 some (decide (p1.Key=c2))
noncomputable def z5s (c1:z0g) (key2:Bs):Option (Int):=
 (z2u c1.Products (fun (a0:z0m)=>z5u a0 key2)).bind fun (r3:(Int))=>some r3
noncomputable def z6c (v34:Bool):Option (Int):=
 if v34 then some 1 else some 0
noncomputable def z49 (v2:z0o) (v25:Bool):Option (Int):=
 if v25 then some 3 else ((z4m v2.Limit (-1) 1000000000000).bind fun (r27:(Bool))=>if !r27 then (z6c true) else ((z4m v2.Trial 0 132).bind fun (r31:(Bool))=>z6c (!r31)))
noncomputable def z74 (v52:Bool):Option (Unit ⊕ (Int)):=
 if v52 then (some (.inr 7)) else (some (.inl ()))
noncomputable def z6b (v2:z0o) (k16:Nat) (x19:z01) (v45:Bool):Option (Unit ⊕ (Int)):=
 if v45 then (some (.inr 1)) else (if decide (0 < (k16:Int)) then ((at? v2.Tiers ((k16:Int) - 1)).bind fun (x49:z01)=>z74 (decide (x19.From≤x49.From))) else (z74 false))
noncomputable def z73 (v2:z0o) (k16:Nat) (x19:z01):Option (Unit ⊕ (Int)):=
 (z4m x19.From 1 1000000000000).bind fun (r38:(Bool))=>if !r38 then (z6b v2 k16 x19 true) else ((z4m x19.Cents 0 1000000).bind fun (r42:(Bool))=>z6b v2 k16 x19 (!r42))
noncomputable def z77 (v2:z0o):Option (Int):=
 if decide (0 < (v2.Tiers.length:Int)) then ((v2.Tiers[0]?).bind fun (x22:z01)=>z49 v2 (decide (x22.From≠1))) else (z49 v2 false)
noncomputable def z4e (v2:z0o) (v13:Bool):Option (Int):=
 if v13 then some 1 else (if decide (20 < (v2.Tiers.length:Int)) then some 2 else (if v2.Tiers.length≤1000000000 then forL (fun (k:Nat) (x:z01) (s:Unit)=>z73 v2 k x) (fun (s:Unit)=>z77 v2) 0 v2.Tiers () else none))
noncomputable def z8p (v1:z0g) (v2:z0o):Option (Int):=
 (z5s v1 v2.Product).bind fun (r3:(Int))=>if decide (r3 < 0) then some 8 else ((z4m v2.Base 0 1000000000000).bind fun (r6:(Bool))=>if !r6 then (z4e v2 true) else ((z4m v2.Free 0 1000000000000).bind fun (r10:(Bool))=>z4e v2 (!r10)))
noncomputable def y12 (r2:((List Bs))) (k4:Nat) (x7:Bs):Option (Unit ⊕ (Bool)):=
 (z7n x7).bind fun (r10:(Bool))=>if ((!r10) && ((decide (x7≠[42])) || (decide ((k4:Int) < (wr ((r2.length:Int) - 1)))))) then (some (.inr false)) else (some (.inl ()))
noncomputable def y3b (r2:((List Bs))):Option (Bool):=
 some (decide ((r2.length:Int)≤10))
noncomputable def y08 (s1:Bs):Option (Bool):=
 (z7v s1 [58]).bind fun (r2:((List Bs)))=>if r2.length≤1000000000 then forL (fun (k:Nat) (x:Bs) (s:Unit)=>y12 r2 k x) (fun (s:Unit)=>y3b r2) 0 r2 () else none
noncomputable def z8x (k3:Nat) (x6:Bs):Option (Unit ⊕ (Int)):=
 (y08 x6).bind fun (r9:(Bool))=>if !r9 then (some (.inr 3)) else (some (.inl ()))
noncomputable def y02:Option (Int):=
 some 0
noncomputable def z65 (l1:(List Bs)):Option (Int):=
 if decide (50 < (l1.length:Int)) then some 2 else (if l1.length≤1000000000 then forL (fun (k:Nat) (x:Bs) (s:Unit)=>z8x k x) (fun (s:Unit)=>y02) 0 l1 () else none)
noncomputable def z8g (v1:z0g) (k10:Nat) (x13:z0o) (v9:Bs):Option (Bs ⊕ (Int)):=
 (z7n x13.Key).bind fun (r16:(Bool))=>if !r16 then (some (.inr 5)) else (if (Op.bytesLess x13.Key v9 || x13.Key == v9) then (some (.inr 7)) else ((z8p v1 x13).bind fun (r20:(Int))=>if decide (r20≠0) then (some (.inr r20)) else (some (.inl x13.Key))))
noncomputable def z8i (v9:Bs):Option (Int):=
 some 0
noncomputable def z8h (k4:Nat) (x7:z0m) (v3:Bs):Option (Bs ⊕ (Int)):=
 (z7n x7.Key).bind fun (r25:(Bool))=>if !r25 then (some (.inr 5)) else (if (Op.bytesLess x7.Key v3 || x7.Key == v3) then (some (.inr 7)) else ((z65 x7.Scopes).bind fun (r29:(Int))=>if decide (r29≠0) then (some (.inr r29)) else (some (.inl x7.Key))))
noncomputable def z47 (v1:z0g) (v3:Bs):Option (Int):=
 if decide (100 < (v1.Plans.length:Int)) then some 2 else (if v1.Plans.length≤1000000000 then forL (fun (k:Nat) (x:z0o) (s:Bs)=>z8g v1 k x s) (fun (s:Bs)=>z8i s) 0 v1.Plans [] else none)
noncomputable def z5i (v1:z0g):Option (Int):=
 if decide (100 < (v1.Products.length:Int)) then some 2 else (if v1.Products.length≤1000000000 then forL (fun (k:Nat) (x:z0m) (s:Bs)=>z8h k x s) (fun (s:Bs)=>z47 v1 s) 0 v1.Products [] else none)
noncomputable def z7x  : Option (z0h):=
 some (z0h.mk 0 [] 0 (-1))
noncomputable def z44 (p1:z0o→Option (Bool)) (k2:Nat) (x5:z0o):Option (Unit ⊕ (Int)):=
 (p1 x5).bind fun (r8:Bool)=>if r8 then (some (.inr (k2:Int))) else (some (.inl ()))
noncomputable def z45:Option (Int):=
 some (-1)
noncomputable def z3s (s1:(List z0o)) (p1:z0o→Option (Bool)):Option (Int):=
 if s1.length≤1000000000 then forL (fun (k:Nat) (x:z0o) (s:Unit)=>z44 p1 k x) (fun (s:Unit)=>z45) 0 s1 () else none
noncomputable def z7e (p1:z0o) (c2:Bs):Option (Bool):=
 some (decide (p1.Key=c2))
noncomputable def z35 (c1:z0g) (key2:Bs):Option (Int):=
 (z3s c1.Plans (fun (a0:z0o)=>z7e a0 key2)).bind fun (r3:(Int))=>some r3
noncomputable def z3f (v3:z0e) (c38:Int) (c39:Bs) (c40:Int):Option (z0h×Bool):=
 some ((z0h.mk c38 c39 v3.At c40),true)
noncomputable def z7h (v2:z0h) (v3:z0e) (v25:Bool):Option (z0h×Bool):=
 if v25 then (some (v2,false)) else (z3f v3 v2.State v3.Plan v2.First)
noncomputable def z7g (v2:z0h) (v3:z0e) (v36:Bool):Option (z0h×Bool):=
 if v36 then (z3f v3 4 v2.Plan v2.First) else (some (v2,false))
noncomputable def z7i (v1:z0g) (v2:z0h) (v3:z0e) (v9:Bool):Option (z0h×Bool):=
 if v9 then (some (v2,false)) else (if ((decide (v3.Kind=1)) && ((decide (v2.State=0)) || (decide (v2.State=4)))) then ((z35 v1 v3.Plan).bind fun (r12:(Int))=>(at? v1.Plans r12).bind fun (x14:z0o)=>if !x14.Asked then (z3f v3 2 v3.Plan v3.At) else (z3f v3 1 v3.Plan (-1))) else (if ((decide (v3.Kind=1)) && ((decide (v2.State=2)) || (decide (v2.State=3)))) then (if decide (v3.Plan=v2.Plan) then (z7h v2 v3 true) else ((z35 v1 v3.Plan).bind fun (r20:(Int))=>(at? v1.Plans r20).bind fun (x22:z0o)=>z7h v2 v3 x22.Asked)) else (if ((decide (v3.Kind=2)) && (decide (v2.State=1))) then (z3f v3 2 v2.Plan v3.At) else (if ((decide (v3.Kind=3)) && (decide (v2.State=1))) then (z3f v3 4 v2.Plan v2.First) else (if ((decide (v3.Kind=4)) && (decide (v2.State=2))) then (z3f v3 3 v2.Plan v2.First) else (if ((decide (v3.Kind=5)) && (decide (v2.State=3))) then (z3f v3 2 v2.Plan v2.First) else (if decide (v3.Kind=6) then ((z4m v2.State 1 3).bind fun (r33:(Bool))=>z7g v2 v3 r33) else (z7g v2 v3 false))))))))
noncomputable def z60 (v1:z0g) (v2:z0h) (v3:z0e):Option (z0h×Bool):=
 if decide (v3.Kind=1) then ((z35 v1 v3.Plan).bind fun (r6:(Int))=>z7i v1 v2 v3 (decide (r6 < 0))) else (z7i v1 v2 v3 false)
noncomputable def z6t (out23:(List z0h)) (refused24:(List Int)):Option (((List z0h)×(List Int)) ⊕ ((List z0h)×(List Int))):=
 some (.inl (out23,refused24))
noncomputable def z6s (c1:z0g) (app3:Bs) (product4:Bs) (k9:Nat) (x12:z0e) (l7:(List z0h)) (l8:(List Int)):Option (((List z0h)×(List Int)) ⊕ ((List z0h)×(List Int))):=
 if ((decide (x12.App≠app3)) || (decide (x12.Product≠product4))) then (z6t l7 l8) else ((at? l7 (wr ((l7.length:Int) - 1))).bind fun (x16:z0h)=>(z60 c1 x16 x12).bind fun (r18:(z0h×Bool))=>if r18.2 then (if l7.length+1≤1000000000 then (z6t (l7++[r18.1]) l8) else none) else (if l8.length+1≤1000000000 then (z6t l7 (l8++[(k9:Int)])) else none))
noncomputable def z8f (l7:(List z0h)) (l8:(List Int)):Option ((List z0h)×(List Int)):=
 some (l7,l8)
noncomputable def y0m (c1:z0g) (l2:(List z0e)) (app3:Bs) (product4:Bs):Option ((List z0h)×(List Int)):=
 (z7x ).bind fun (r5:(z0h))=>if l2.length≤1000000000 then forL (fun (k:Nat) (x:z0e) (s:(List z0h)×(List Int))=>z6s c1 app3 product4 k x s.1 s.2) (fun (s:(List z0h)×(List Int))=>z8f s.1 s.2) 0 l2 (([r5]:(List z0h)),[]) else none
noncomputable def z36 (s1:z0d):Option (Bs×z0d):=
 (z1g s1 ([[97,112,112,49],[97,112,112,49],[97,112,112,49],[97,112,112,50],[97,112,112,51],[110,111,110,101]])).bind fun (r2:(Bs×z0d))=>some (r2.1,r2.2)
noncomputable def z27 (s1:z0d):Option (Bs×z0d):=
 (z1g s1 ([[115,104,111,112],[115,104,111,112],[115,104,111,112],[109,97,112,115],[110,111,110,101]])).bind fun (r2:(Bs×z0d))=>some (r2.1,r2.2)
noncomputable def z5b (out23:(List z0h)) (refused24:(List Int)):Option (((List z0h)×(List Int)) ⊕ ((List z0h)×(List Int))):=
 some (.inl (out23,refused24))
noncomputable def z92 (c1:z0g) (app3:Bs) (product4:Bs) (k9:Nat) (x12:z0e) (l7:(List z0h)) (l8:(List Int)):Option (((List z0h)×(List Int)) ⊕ ((List z0h)×(List Int))):=
 if ((decide (x12.App≠app3)) || (decide (x12.Product≠product4))) then (z5b l7 l8) else ((at? l7 (wr ((l7.length:Int) - 1))).bind fun (x16:z0h)=>(z60 c1 x16 x12).bind fun (r18:(z0h×Bool))=>if r18.2 then (if l7.length+1≤1000000000 then (z5b (l7++[r18.1]) l8) else none) else (if l8.length+1≤1000000000 then (z5b l7 (l8++[(k9:Int)])) else none))
noncomputable def z93 (l7:(List z0h)) (l8:(List Int)):Option ((List z0h)×(List Int)):=
 some (l7,l8)
noncomputable def z8r (c1:z0g) (l2:(List z0e)) (app3:Bs) (product4:Bs):Option ((List z0h)×(List Int)):=
 (z7x ).bind fun (r5:(z0h))=>if l2.length≤1000000000 then forL (fun (k:Nat) (x:z0e) (s:(List z0h)×(List Int))=>z92 c1 app3 product4 k x s.1 s.2) (fun (s:(List z0h)×(List Int))=>z93 s.1 s.2) 0 l2 (([r5]:(List z0h)),[]) else none
noncomputable def z4g (v117:(List Bs)):Option ((List Bs) ⊕ ((Int×(List Int)×Int×(List z0e)) ⊕ ((List z0e)×z0d))):=
 some (.inl v117)
noncomputable def z7p (r25:(Bs×z0d)) (k46:Nat) (x49:z0o) (l45:(List Bs)):Option ((List Bs) ⊕ ((Int×(List Int)×Int×(List z0e)) ⊕ ((List z0e)×z0d))):=
 if decide (x49.Product=r25.1) then (if l45.length+1≤1000000000 then (z4g (l45++[x49.Key])) else none) else (z4g l45)
noncomputable def z3d (v118:Int) (v119:(List z0e)) (c120:(List Int)) (c121:Int):Option ((Int×(List Int)×Int×(List z0e)) ⊕ ((List z0e)×z0d)):=
 some (.inl (v118,c120,c121,v119))
noncomputable def z2b (v5:Int) (l8:(List z0e)) (r21:(Int×z0d)) (c105:(List Int)) (c106:Int) (c107:Int) (c108:Bs) (c109:Bs) (c110:Int) (c111:Bs):Option ((Int×(List Int)×Int×(List z0e)) ⊕ ((List z0e)×z0d)):=
 if l8.length+1≤1000000000 then (z3d (wr (v5+r21.1)) (l8++[(z0e.mk c107 c108 c109 c110 c111)]) c105 c106) else none
noncomputable def z3x (v5:Int) (l8:(List z0e)) (r21:(Int×z0d)) (r25:(Bs×z0d)) (c44:Bs) (c76:Int) (c83:(List Int)) (c84:Int) (c85:Bs):Option ((Int×(List Int)×Int×(List z0e)) ⊕ ((List z0e)×z0d)):=
 (z1o (z0d.mk c83 c84) 60).bind fun (r86:(Bool×z0d))=>if r86.1 then ((z2a r86.2 5).bind fun (r89:(Int×z0d))=>if decide (r89.1=0) then ((z36 r89.2).bind fun (r92:(Bs×z0d))=>z2b v5 l8 r21 r92.2.L r92.2.at_ (wr (v5+r21.1)) r92.1 r25.1 c76 c85) else (if decide (r89.1=1) then ((z27 r89.2).bind fun (r95:(Bs×z0d))=>z2b v5 l8 r21 r95.2.L r95.2.at_ (wr (v5+r21.1)) c44 r95.1 c76 c85) else (if decide (r89.1=2) then ((z2l r89.2 1 6).bind fun (r98:(Int×z0d))=>z2b v5 l8 r21 r98.2.L r98.2.at_ (wr (v5+r21.1)) c44 r25.1 r98.1 c85) else (if decide (r89.1=3) then ((z1g r89.2 ([[98,105,103],[110,111,110,101],[]])).bind fun (r101:(Bs×z0d))=>z2b v5 l8 r21 r101.2.L r101.2.at_ (wr (v5+r21.1)) c44 r25.1 c76 r101.1) else ((z2l r89.2 0 1000).bind fun (r103:(Int×z0d))=>z2b v5 l8 r21 r103.2.L r103.2.at_ r103.1 c44 r25.1 c76 c85))))) else (z2b v5 l8 r21 r86.2.L r86.2.at_ (wr (v5+r21.1)) c44 r25.1 c76 c85)
noncomputable def z2c (v5:Int) (l8:(List z0e)) (r21:(Int×z0d)) (r25:(Bs×z0d)) (c44:Bs) (l45:(List Bs)) (c74:(List Int)) (c75:Int) (c76:Int):Option ((Int×(List Int)×Int×(List z0e)) ⊕ ((List z0e)×z0d)):=
 if decide (c76=1) then (if decide ((l45.length:Int)=0) then (z3d (wr (v5+r21.1)) l8 c74 c75) else ((z2a (z0d.mk c74 c75) (l45.length:Int)).bind fun (r79:(Int×z0d))=>(at? l45 r79.1).bind fun (x81:Bs)=>z3x v5 l8 r21 r25 c44 c76 r79.2.L r79.2.at_ x81)) else (z3x v5 l8 r21 r25 c44 c76 c74 c75 [])
noncomputable def z3b (v2:z0g) (v5:Int) (l8:(List z0e)) (r21:(Int×z0d)) (r25:(Bs×z0d)) (r27:(Int×z0d)) (c44:Bs) (l45:(List Bs)) (v57:Bool) (c58:(List Int)) (c59:Int):Option ((Int×(List Int)×Int×(List z0e)) ⊕ ((List z0e)×z0d)):=
 if v57 then ((z8r v2 l8 c44 r25.1).bind fun (r61:((List z0h)×(List Int)))=>(at? r61.1 (wr ((r61.1.length:Int) - 1))).bind fun (x63:z0h)=>if decide (x63.State=1) then ((z1c (z0d.mk c58 c59) [2,2,3]).bind fun (r66:(Int×z0d))=>z2c v5 l8 r21 r25 c44 l45 r66.2.L r66.2.at_ r66.1) else (if decide (x63.State=2) then ((z1c (z0d.mk c58 c59) [4,6,1]).bind fun (r69:(Int×z0d))=>z2c v5 l8 r21 r25 c44 l45 r69.2.L r69.2.at_ r69.1) else (if decide (x63.State=3) then ((z1c (z0d.mk c58 c59) [5,6]).bind fun (r72:(Int×z0d))=>z2c v5 l8 r21 r25 c44 l45 r72.2.L r72.2.at_ r72.1) else (z2c v5 l8 r21 r25 c44 l45 c58 c59 1)))) else (z2c v5 l8 r21 r25 c44 l45 c58 c59 r27.1)
noncomputable def z7r (v2:z0g) (v5:Int) (l8:(List z0e)) (r21:(Int×z0d)) (r25:(Bs×z0d)) (r27:(Int×z0d)) (c42:(List Int)) (c43:Int) (c44:Bs) (l45:(List Bs)):Option ((Int×(List Int)×Int×(List z0e)) ⊕ ((List z0e)×z0d)):=
 (z1o (z0d.mk c42 c43) 4).bind fun (r50:(Bool×z0d))=>if !r50.1 then ((z5i v2).bind fun (r54:(Int))=>z3b v2 v5 l8 r21 r25 r27 c44 l45 (decide (r54=0)) r50.2.L r50.2.at_) else (z3b v2 v5 l8 r21 r25 r27 c44 l45 false r50.2.L r50.2.at_)
noncomputable def z3c (v2:z0g) (v5:Int) (l8:(List z0e)) (r21:(Int×z0d)) (r25:(Bs×z0d)) (r27:(Int×z0d)) (c42:(List Int)) (c43:Int) (c44:Bs):Option ((Int×(List Int)×Int×(List z0e)) ⊕ ((List z0e)×z0d)):=
 if v2.Plans.length≤1000000000 then forL (fun (k:Nat) (x:z0o) (s:(List Bs))=>z7p r25 k x s) (fun (s:(List Bs))=>z7r v2 v5 l8 r21 r25 r27 c42 c43 c44 s) 0 v2.Plans [] else none
noncomputable def z4v (v2:z0g) (v3:(List z0t)) (v5:Int) (l8:(List z0e)) (r21:(Int×z0d)) (r23:(Bs×z0d)) (r25:(Bs×z0d)) (r27:(Int×z0d)) (v34:Bool) (c35:(List Int)) (c36:Int):Option ((Int×(List Int)×Int×(List z0e)) ⊕ ((List z0e)×z0d)):=
 if v34 then ((z2a (z0d.mk c35 c36) (v3.length:Int)).bind fun (r38:(Int×z0d))=>(at? v3 r38.1).bind fun (x40:z0t)=>z3c v2 v5 l8 r21 r25 r27 r38.2.L r38.2.at_ x40.Key) else (z3c v2 v5 l8 r21 r25 r27 c35 c36 r23.1)
noncomputable def z7q (v2:z0g) (v3:(List z0t)) (k9:Nat) (v5:Int) (c6:(List Int)) (c7:Int) (l8:(List z0e)):Option ((Int×(List Int)×Int×(List z0e)) ⊕ ((List z0e)×z0d)):=
 (z1c (z0d.mk c6 c7) [1,5,86400000,864000000,2592000000,wr (2592000000 - (Int.tmod v5 2592000000))]).bind fun (r21:(Int×z0d))=>(z1g r21.2 ([[97,112,112,49],[97,112,112,49],[97,112,112,50]])).bind fun (r23:(Bs×z0d))=>(z1g r23.2 ([[115,104,111,112],[115,104,111,112],[109,97,112,115]])).bind fun (r25:(Bs×z0d))=>(z3t r25.2 1 6).bind fun (r27:(Int×z0d))=>if decide (0 < (v3.length:Int)) then ((z1o r27.2 3).bind fun (r31:(Bool×z0d))=>z4v v2 v3 v5 l8 r21 r23 r25 r27 r31.1 r31.2.L r31.2.at_) else (z4v v2 v3 v5 l8 r21 r23 r25 r27 false r27.2.L r27.2.at_)
noncomputable def z7s (v5:Int) (c6:(List Int)) (c7:Int) (l8:(List z0e)):Option ((List z0e)×z0d):=
 (z1z l8 (fun (a0:z0e) (a1:z0e)=>z3a a0 a1)).bind fun (r12:((List z0e)))=>if r12.length=l8.length then ((z1o (z0d.mk c6 c7) 60).bind fun (r15:(Bool×z0d))=>if r15.1 then (some (r12,r15.2)) else ((z4l r12 (fun (a0:z0e) (a1:z0e)=>z5m a0 a1)).bind fun (r18:((List z0e)))=>some (r18,r15.2))) else none
noncomputable def z6a (s1:z0d) (v2:z0g) (v3:(List z0t)) (v4:Int):Option ((List z0e)×z0d):=
 if v4≤1000000000 then rng (fun (k:Nat) (s:Int×(List Int)×Int×(List z0e))=>z7q v2 v3 k s.1 s.2.1 s.2.2.1 s.2.2.2) (fun (s:Int×(List Int)×Int×(List z0e))=>z7s s.1 s.2.1 s.2.2.1 s.2.2.2) v4.toNat 0 (0,s1.L,s1.at_,[]) else none
noncomputable def z6g (last3:Bs) (x7:z0t) (v17:Bool):Option (Bs ⊕ (Int)):=
 if v17 then (some (.inr 5)) else (if (Op.bytesLess x7.Key last3 || x7.Key == last3) then (some (.inr 7)) else (some (.inl x7.Key)))
noncomputable def z94 (k4:Nat) (x7:z0t) (last3:Bs):Option (Bs ⊕ (Int)):=
 (z7n x7.Key).bind fun (r10:(Bool))=>if !r10 then (z6g last3 x7 true) else ((z7n x7.Owner).bind fun (r14:(Bool))=>z6g last3 x7 (!r14))
noncomputable def z95 (last3:Bs):Option (Int):=
 some 0
noncomputable def z8t (l1:(List z0t)):Option (Int):=
 if decide (500 < (l1.length:Int)) then some 2 else (if l1.length≤1000000000 then forL (fun (k:Nat) (x:z0t) (s:Bs)=>z94 k x s) (fun (s:Bs)=>z95 s) 0 l1 [] else none)
noncomputable def y2v (c1:z0g) (apps2:(List z0t)):Option (Int):=
 (z5i c1).bind fun (r3:(Int))=>if decide (r3≠0) then some r3 else ((z8t apps2).bind fun (r6:(Int))=>some r6)
noncomputable def y0n (v1:Int):Option (Bool):=
 (z4m v1 0 345686399999).bind fun (r2:(Bool))=>some r2
noncomputable def z5e (p1:z0t→Option (Bool)) (k2:Nat) (x5:z0t):Option (Unit ⊕ (Int)):=
 (p1 x5).bind fun (r8:Bool)=>if r8 then (some (.inr (k2:Int))) else (some (.inl ()))
noncomputable def z5f:Option (Int):=
 some (-1)
noncomputable def z33 (s1:(List z0t)) (p1:z0t→Option (Bool)):Option (Int):=
 if s1.length≤1000000000 then forL (fun (k:Nat) (x:z0t) (s:Unit)=>z5e p1 k x) (fun (s:Unit)=>z5f) 0 s1 () else none
noncomputable def z8c (a1:z0t) (c2:Bs):Option (Bool):=
 some (decide (a1.Key=c2))
noncomputable def z8m (l1:(List z0t)) (key2:Bs):Option (Int):=
 (z33 l1 (fun (a0:z0t)=>z8c a0 key2)).bind fun (r3:(Int))=>some r3
noncomputable def z5j (v47:Bool):Option (Unit ⊕ (Int)):=
 if v47 then (some (.inr 7)) else (some (.inl ()))
noncomputable def z4n (v3:(List z0e)) (k8:Nat) (x11:z0e) (v38:Bool):Option (Unit ⊕ (Int)):=
 if v38 then (some (.inr 16)) else (if decide (0 < (k8:Int)) then ((at? v3 ((k8:Int) - 1)).bind fun (x42:z0e)=>(z3a x42 x11).bind fun (r44:(Int))=>z5j (decide (0≤r44))) else (z5j false))
noncomputable def z5k (v1:z0g) (v3:(List z0e)) (k8:Nat) (x11:z0e) (r14:(Int)) (v26:Bool):Option (Unit ⊕ (Int)):=
 if v26 then (some (.inr 8)) else ((z4m x11.Kind 1 6).bind fun (r28:(Bool))=>if !r28 then (some (.inr 4)) else (if ((!(decide (x11.Kind=1))) && (decide (x11.Plan≠[]))) then (some (.inr 3)) else (if ((decide (x11.Kind=1)) && (decide (r14 < 0))) then (some (.inr 8)) else (if decide (x11.Kind=1) then ((at? v1.Plans r14).bind fun (x35:z0o)=>z4n v3 k8 x11 (decide (x35.Product≠x11.Product))) else (z4n v3 k8 x11 false)))))
noncomputable def z6u (v1:z0g) (v2:(List z0t)) (v3:(List z0e)) (k8:Nat) (x11:z0e):Option (Unit ⊕ (Int)):=
 (z35 v1 x11.Plan).bind fun (r14:(Int))=>(y0n x11.At).bind fun (r16:(Bool))=>if !r16 then (some (.inr 1)) else ((z8m v2 x11.App).bind fun (r19:(Int))=>if decide (r19 < 0) then (z5k v1 v3 k8 x11 r14 true) else ((z5s v1 x11.Product).bind fun (r23:(Int))=>z5k v1 v3 k8 x11 r14 (decide (r23 < 0))))
noncomputable def y05:Option (Int):=
 some 0
noncomputable def z66 (v1:z0g) (v2:(List z0t)) (v3:(List z0e)):Option (Int):=
 (y2v v1 v2).bind fun (r4:(Int))=>if decide (r4≠0) then some r4 else (if decide (1000 < (v3.length:Int)) then some 2 else (if v3.length≤1000000000 then forL (fun (k:Nat) (x:z0e) (s:Unit)=>z6u v1 v2 v3 k x) (fun (s:Unit)=>y05) 0 v3 () else none))
noncomputable def y0p (s1:z0d) (many2:Int):Option (z0g×(List z0t)×(List z0e)×Int×z0d):=
 (z5y s1).bind fun (r3:(z0g×z0d))=>(z67 r3.2).bind fun (r5:((List z0t)×z0d))=>(z6a r5.2 r3.1 r5.1 many2).bind fun (r7:((List z0e)×z0d))=>(z66 r3.1 r5.1 r7.1).bind fun (r9:(Int))=>some (r3.1,r5.1,r7.1,r9,r7.2)
noncomputable def z4o (s1:z0d):Option (Int×z0d):=
 (z1c s1 [0,1,2,3]).bind fun (r2:(Int×z0d))=>(z1c r2.2 [0,0,1,14,15,29]).bind fun (r4:(Int×z0d))=>(z1c r4.2 [0,1,1000,(-1)]).bind fun (r6:(Int×z0d))=>some (wr ((wr ((wr (r2.1 * 2592000000))+(wr (r4.1 * 86400000))))+r6.1),r6.2)
noncomputable def y4v (i2:Nat) (x5:UInt8):Option (Unit ⊕ (Bool)):=
 if !(((decide (97≤(x5.toNat:Int))) && (decide ((x5.toNat:Int)≤122))) || ((decide (0 < (i2:Int))) && ((((decide (48≤(x5.toNat:Int))) && (decide ((x5.toNat:Int)≤57))) || (decide ((x5.toNat:Int)=45))) || (decide ((x5.toNat:Int)=95))))) then (some (.inr false)) else (some (.inl ()))
noncomputable def y6g (s1:Bs):Option (Bool):=
 some ((decide (s1≠[])) && (decide ((s1.length:Int)≤40)))
noncomputable def y01 (s1:Bs):Option (Bool):=
 if s1.length≤1000000000 then forL (fun (k:Nat) (x:UInt8) (s:Unit)=>y4v k x) (fun (s:Unit)=>y6g s1) 0 s1 () else none
noncomputable def y2h (r2:((List Bs))) (k4:Nat) (x7:Bs):Option (Unit ⊕ (Bool)):=
 (y01 x7).bind fun (r10:(Bool))=>if ((!r10) && (!((decide (x7=[42])) && (decide ((k4:Int)=(wr ((r2.length:Int) - 1))))))) then (some (.inr false)) else (some (.inl ()))
noncomputable def y3r (r2:((List Bs))):Option (Bool):=
 some (decide ((r2.length:Int)≤10))
noncomputable def y1s (s1:Bs):Option (Bool):=
 (z7v s1 [58]).bind fun (r2:((List Bs)))=>if r2.length≤1000000000 then forL (fun (k:Nat) (x:Bs) (s:Unit)=>y2h r2 k x) (fun (s:Unit)=>y3r r2) 0 r2 () else none
noncomputable def y0b (k3:Nat) (x6:Bs):Option (Unit ⊕ (Int)):=
 (y1s x6).bind fun (r9:(Bool))=>if !r9 then (some (.inr 3)) else (some (.inl ()))
noncomputable def y14:Option (Int):=
 some 0
noncomputable def z7d (l1:(List Bs)):Option (Int):=
 if decide (50 < (l1.length:Int)) then some 2 else (if l1.length≤1000000000 then forL (fun (k:Nat) (x:Bs) (s:Unit)=>y0b k x) (fun (s:Unit)=>y14) 0 l1 () else none)
noncomputable def z4i (x6:z0m) (v17:Bool):Option (Unit ⊕ (Int)):=
 if v17 then (some (.inr 7)) else ((z7d x6.Scopes).bind fun (r19:(Int))=>if decide (r19≠0) then (some (.inr r19)) else (some (.inl ())))
noncomputable def z8u (l1:(List z0m)) (k3:Nat) (x6:z0m):Option (Unit ⊕ (Int)):=
 (y01 x6.Key).bind fun (r9:(Bool))=>if !r9 then (some (.inr 5)) else (if decide (0 < (k3:Int)) then ((at? l1 ((k3:Int) - 1)).bind fun (x14:z0m)=>z4i x6 (Op.bytesLess x6.Key x14.Key || x6.Key == x14.Key)) else (z4i x6 false))
noncomputable def y0z:Option (Int):=
 some 0
noncomputable def z64 (l1:(List z0m)):Option (Int):=
 if decide (100 < (l1.length:Int)) then some 2 else (if l1.length≤1000000000 then forL (fun (k:Nat) (x:z0m) (s:Unit)=>z8u l1 k x) (fun (s:Unit)=>y0z) 0 l1 () else none)
noncomputable def z1m (i12:Int) (v20:Bool):Option (Int×Bool):=
 some (i12,v20)
noncomputable def z13 (x1:(List z0m)) (target2:Bs) (p2:z0m→Bs→Option (Int)) (i12:Int):Option (Int×Bool):=
 if decide (i12 < (x1.length:Int)) then ((at? x1 i12).bind fun (x15:z0m)=>(p2 x15 target2).bind fun (r17:Int)=>z1m i12 (decide (r17=0))) else (z1m i12 false)
noncomputable def z2p (x1:(List z0m)) (target2:Bs) (p2:z0m→Bs→Option (Int)) (i3:Int) (j4:Int):Option ((Int×Int) ⊕ (Int×Bool)):=
 if decide (i3 < j4) then ((at? x1 (IntKind.wrap .i64 (shr_ .u64 (IntKind.wrap .u64 (wr (i3+j4))) 1))).bind fun (x7:z0m)=>(p2 x7 target2).bind fun (r9:Int)=>if decide (r9 < 0) then (some (.inl (wr ((IntKind.wrap .i64 (shr_ .u64 (IntKind.wrap .u64 (wr (i3+j4))) 1))+1),j4))) else (some (.inl (i3,IntKind.wrap .i64 (shr_ .u64 (IntKind.wrap .u64 (wr (i3+j4))) 1))))) else (Option.map .inr (z13 x1 target2 p2 i3))
noncomputable def z16 (x1:(List z0m)) (target2:Bs) (p2:z0m→Bs→Option (Int)):Option (Int×Bool):=
 iter (fun (s:Int×Int)=>z2p x1 target2 p2 s.1 s.2) (0,(x1.length:Int))
noncomputable def z6y (p1:z0m) (k2:Bs):Option (Int):=
 (z5g p1.Key k2).bind fun (r3:(Int))=>some r3
noncomputable def z6o (c1:z0g) (key2:Bs):Option (Int×Bool):=
 (z16 c1.Products key2 (fun (a0:z0m) (a1:Bs)=>z6y a0 a1)).bind fun (r3:(Int×Bool))=>some (r3.1,r3.2)
noncomputable def z6p (n1:Int) (low2:Int) (high3:Int):Option (Bool):=
 some ((decide (n1 < low2)) || (decide (high3 < n1)))
noncomputable def z6w (v12:Bool):Option (Int):=
 if v12 then some 3 else some 0
noncomputable def z6v (v30:Bool):Option (Unit ⊕ (Int)):=
 if v30 then (some (.inr 7)) else (some (.inl ()))
noncomputable def z4x (l1:(List z01)) (k3:Nat) (x6:z01) (v23:Bool):Option (Unit ⊕ (Int)):=
 if v23 then (some (.inr 1)) else (if decide (0 < (k3:Int)) then ((at? l1 ((k3:Int) - 1)).bind fun (x27:z01)=>z6v (decide (x6.From≤x27.From))) else (z6v false))
noncomputable def z8o (l1:(List z01)) (k3:Nat) (x6:z01):Option (Unit ⊕ (Int)):=
 (z6p x6.From 1 1000000000000).bind fun (r16:(Bool))=>if r16 then (z4x l1 k3 x6 true) else ((z6p x6.Cents 0 1000000).bind fun (r20:(Bool))=>z4x l1 k3 x6 r20)
noncomputable def y0d (l1:(List z01)):Option (Int):=
 if decide (0 < (l1.length:Int)) then ((l1[0]?).bind fun (x9:z01)=>z6w (decide (x9.From≠1))) else (z6w false)
noncomputable def z89 (l1:(List z01)):Option (Int):=
 if decide (20 < (l1.length:Int)) then some 2 else (if l1.length≤1000000000 then forL (fun (k:Nat) (x:z01) (s:Unit)=>z8o l1 k x) (fun (s:Unit)=>y0d l1) 0 l1 () else none)
noncomputable def z69 (v37:Bool):Option (Int):=
 if v37 then some 1 else some 0
noncomputable def z7a (x3:z0o) (v25:Bool):Option (Int):=
 if v25 then some 1 else ((z89 x3.Tiers).bind fun (r27:(Int))=>if decide (r27≠0) then some r27 else ((z6p x3.Limit (-1) 1000000000000).bind fun (r30:(Bool))=>if r30 then (z69 true) else ((z6p x3.Trial 0 132).bind fun (r34:(Bool))=>z69 r34)))
noncomputable def z52 (v1:z0g) (x3:z0o) (v13:Bool):Option (Int):=
 if v13 then some 7 else ((z6o v1 x3.Product).bind fun (r15:(Int×Bool))=>if !r15.2 then some 8 else ((z6p x3.Base 0 1000000000000).bind fun (r18:(Bool))=>if r18 then (z7a x3 true) else ((z6p x3.Free 0 1000000000000).bind fun (r22:(Bool))=>z7a x3 r22)))
noncomputable def z9y (v1:z0g) (v2:Int):Option (Int):=
 (at? v1.Plans v2).bind fun (x3:z0o)=>(y01 x3.Key).bind fun (r5:(Bool))=>if !r5 then some 5 else (if decide (0 < v2) then ((at? v1.Plans (wr (v2 - 1))).bind fun (x10:z0o)=>z52 v1 x3 (Op.bytesLess x3.Key x10.Key || x3.Key == x10.Key)) else (z52 v1 x3 false))
noncomputable def z9i (c1:z0g) (k6:Nat) (x9:z0o):Option (Unit ⊕ (Int)):=
 (z9y c1 (k6:Int)).bind fun (r12:(Int))=>if decide (r12≠0) then (some (.inr r12)) else (some (.inl ()))
noncomputable def y1h:Option (Int):=
 some 0
noncomputable def z58 (c1:z0g):Option (Int):=
 (z64 c1.Products).bind fun (r2:(Int))=>if decide (r2≠0) then some r2 else (if decide (100 < (c1.Plans.length:Int)) then some 2 else (if c1.Plans.length≤1000000000 then forL (fun (k:Nat) (x:z0o) (s:Unit)=>z9i c1 k x) (fun (s:Unit)=>y1h) 0 c1.Plans () else none))
noncomputable def z7c (v23:Bool):Option (Unit ⊕ (Int)):=
 if v23 then (some (.inr 7)) else (some (.inl ()))
noncomputable def z54 (l1:(List z0t)) (k3:Nat) (x6:z0t) (v16:Bool):Option (Unit ⊕ (Int)):=
 if v16 then (some (.inr 5)) else (if decide (0 < (k3:Int)) then ((at? l1 ((k3:Int) - 1)).bind fun (x20:z0t)=>z7c (Op.bytesLess x6.Key x20.Key || x6.Key == x20.Key)) else (z7c false))
noncomputable def y00 (l1:(List z0t)) (k3:Nat) (x6:z0t):Option (Unit ⊕ (Int)):=
 (y01 x6.Key).bind fun (r9:(Bool))=>if !r9 then (z54 l1 k3 x6 true) else ((y01 x6.Owner).bind fun (r13:(Bool))=>z54 l1 k3 x6 (!r13))
noncomputable def y2m:Option (Int):=
 some 0
noncomputable def z9z (l1:(List z0t)):Option (Int):=
 if decide (500 < (l1.length:Int)) then some 2 else (if l1.length≤1000000000 then forL (fun (k:Nat) (x:z0t) (s:Unit)=>y00 l1 k x) (fun (s:Unit)=>y2m) 0 l1 () else none)
noncomputable def y1f (n1:Int):Option (Bool):=
 some ((decide (0≤n1)) && (decide (n1 < 345686400000)))
noncomputable def z10 (i12:Int) (v20:Bool):Option (Int×Bool):=
 some (i12,v20)
noncomputable def z2i (x1:(List z0t)) (target2:Bs) (p2:z0t→Bs→Option (Int)) (i12:Int):Option (Int×Bool):=
 if decide (i12 < (x1.length:Int)) then ((at? x1 i12).bind fun (x15:z0t)=>(p2 x15 target2).bind fun (r17:Int)=>z10 i12 (decide (r17=0))) else (z10 i12 false)
noncomputable def z3e (x1:(List z0t)) (target2:Bs) (p2:z0t→Bs→Option (Int)) (i3:Int) (j4:Int):Option ((Int×Int) ⊕ (Int×Bool)):=
 if decide (i3 < j4) then ((at? x1 (IntKind.wrap .i64 (shr_ .u64 (IntKind.wrap .u64 (wr (i3+j4))) 1))).bind fun (x7:z0t)=>(p2 x7 target2).bind fun (r9:Int)=>if decide (r9 < 0) then (some (.inl (wr ((IntKind.wrap .i64 (shr_ .u64 (IntKind.wrap .u64 (wr (i3+j4))) 1))+1),j4))) else (some (.inl (i3,IntKind.wrap .i64 (shr_ .u64 (IntKind.wrap .u64 (wr (i3+j4))) 1))))) else (Option.map .inr (z2i x1 target2 p2 i3))
noncomputable def z2j (x1:(List z0t)) (target2:Bs) (p2:z0t→Bs→Option (Int)):Option (Int×Bool):=
 iter (fun (s:Int×Int)=>z3e x1 target2 p2 s.1 s.2) (0,(x1.length:Int))
noncomputable def z9s (a1:z0t) (k2:Bs):Option (Int):=
 (z5g a1.Key k2).bind fun (r3:(Int))=>some r3
noncomputable def z97 (l1:(List z0t)) (key2:Bs):Option (Int×Bool):=
 (z2j l1 key2 (fun (a0:z0t) (a1:Bs)=>z9s a0 a1)).bind fun (r3:(Int×Bool))=>some (r3.1,r3.2)
noncomputable def z1u (i12:Int) (v20:Bool):Option (Int×Bool):=
 some (i12,v20)
noncomputable def z2d (x1:(List z0o)) (target2:Bs) (p2:z0o→Bs→Option (Int)) (i12:Int):Option (Int×Bool):=
 if decide (i12 < (x1.length:Int)) then ((at? x1 i12).bind fun (x15:z0o)=>(p2 x15 target2).bind fun (r17:Int)=>z1u i12 (decide (r17=0))) else (z1u i12 false)
noncomputable def z26 (x1:(List z0o)) (target2:Bs) (p2:z0o→Bs→Option (Int)) (i3:Int) (j4:Int):Option ((Int×Int) ⊕ (Int×Bool)):=
 if decide (i3 < j4) then ((at? x1 (IntKind.wrap .i64 (shr_ .u64 (IntKind.wrap .u64 (wr (i3+j4))) 1))).bind fun (x7:z0o)=>(p2 x7 target2).bind fun (r9:Int)=>if decide (r9 < 0) then (some (.inl (wr ((IntKind.wrap .i64 (shr_ .u64 (IntKind.wrap .u64 (wr (i3+j4))) 1))+1),j4))) else (some (.inl (i3,IntKind.wrap .i64 (shr_ .u64 (IntKind.wrap .u64 (wr (i3+j4))) 1))))) else (Option.map .inr (z2d x1 target2 p2 i3))
noncomputable def z2f (x1:(List z0o)) (target2:Bs) (p2:z0o→Bs→Option (Int)):Option (Int×Bool):=
 iter (fun (s:Int×Int)=>z26 x1 target2 p2 s.1 s.2) (0,(x1.length:Int))
noncomputable def z80 (p1:z0o) (k2:Bs):Option (Int):=
 (z5g p1.Key k2).bind fun (r3:(Int))=>some r3
noncomputable def z7w (c1:z0g) (key2:Bs):Option (z0o×Bool):=
 (z2f c1.Plans key2 (fun (a0:z0o) (a1:Bs)=>z80 a0 a1)).bind fun (r3:(Int×Bool))=>if !r3.2 then (some ((z0o.mk [] [] 0 0 [] 0 0 false),false)) else ((at? c1.Plans r3.1).bind fun (x6:z0o)=>some (x6,true))
noncomputable def y09 (x1:Int):Option (Bool):=
 some (decide (x1≠x1))
noncomputable def z8d (x1:Int) (y2:Int):Option (Int):=
 (y09 x1).bind fun (r3:(Bool))=>(y09 y2).bind fun (r5:(Bool))=>if r3 then (if r5 then some 0 else (some (-1))) else (if r5 then some 1 else (if decide (x1 < y2) then (some (-1)) else (if decide (y2 < x1) then some 1 else some 0)))
noncomputable def y3f (k2:Nat) (x5:Int):Option (Unit ⊕ (Int)):=
 if decide (x5≠0) then (some (.inr x5)) else (some (.inl ()))
noncomputable def y3g:Option (Int):=
 some 0
noncomputable def y10 (vals1:(List Int)):Option (Int):=
 if vals1.length≤1000000000 then forL (fun (k:Nat) (x:Int) (s:Unit)=>y3f k x) (fun (s:Unit)=>y3g) 0 vals1 () else none
noncomputable def z9j (a1:z0e) (b2:z0e):Option (Int):=
 (z8d a1.At b2.At).bind fun (r3:(Int))=>(z5g a1.App b2.App).bind fun (r5:(Int))=>(z5g a1.Product b2.Product).bind fun (r7:(Int))=>(y10 [r3,r5,r7]).bind fun (r9:(Int))=>some r9
noncomputable def z6x (v32:Bool):Option (Int):=
 if v32 then some 7 else some 0
noncomputable def z5p (v3:(List z0e)) (v4:Int) (x5:z0e):Option (Int):=
 if decide (0 < v4) then ((at? v3 (wr (v4 - 1))).bind fun (x27:z0e)=>(z9j x27 x5).bind fun (r29:(Int))=>z6x (decide (0≤r29))) else (z6x false)
noncomputable def z9a (v1:z0g) (v2:(List z0t)) (v3:(List z0e)) (v4:Int):Option (Int):=
 (at? v3 v4).bind fun (x5:z0e)=>(y1f x5.At).bind fun (r7:(Bool))=>if !r7 then some 1 else ((z97 v2 x5.App).bind fun (r10:(Int×Bool))=>if !r10.2 then some 8 else ((z6o v1 x5.Product).bind fun (r13:(Int×Bool))=>if !r13.2 then some 8 else ((z6p x5.Kind 1 6).bind fun (r16:(Bool))=>if r16 then some 4 else (if ((decide (x5.Plan≠[])) && (decide (x5.Kind≠1))) then some 3 else (if decide (x5.Kind=1) then ((z7w v1 x5.Plan).bind fun (r21:(z0o×Bool))=>if !r21.2 then some 8 else (if decide (r21.1.Product≠x5.Product) then some 16 else (z5p v3 v4 x5))) else (z5p v3 v4 x5))))))
noncomputable def z9w (c1:z0g) (apps2:(List z0t)) (l3:(List z0e)) (k11:Nat) (x14:z0e):Option (Unit ⊕ (Int)):=
 (z9a c1 apps2 l3 (k11:Int)).bind fun (r17:(Int))=>if decide (r17≠0) then (some (.inr r17)) else (some (.inl ()))
noncomputable def y1q:Option (Int):=
 some 0
noncomputable def z5r (c1:z0g) (apps2:(List z0t)) (l3:(List z0e)):Option (Int):=
 (z58 c1).bind fun (r4:(Int))=>if decide (r4≠0) then some r4 else ((z9z apps2).bind fun (r7:(Int))=>if decide (r7≠0) then some r7 else (if decide (1000 < (l3.length:Int)) then some 2 else (if l3.length≤1000000000 then forL (fun (k:Nat) (x:z0e) (s:Unit)=>z9w c1 apps2 l3 k x) (fun (s:Unit)=>y1q) 0 l3 () else none)))
noncomputable def z5q (v1:Int):Option (Int):=
 (y1f v1).bind fun (r2:(Bool))=>if !r2 then some 1 else some 0
noncomputable def y0i (c1:z0g) (apps2:(List z0t)) (app3:Bs) (product4:Bs) (v5:Int):Option (Int):=
 (z97 apps2 app3).bind fun (r6:(Int×Bool))=>(z6o c1 product4).bind fun (r8:(Int×Bool))=>if ((!r6.2) || (!r8.2)) then some 8 else ((z5q v5).bind fun (r11:(Int))=>some r11)
noncomputable def y1y  : Option (z0h):=
 some (z0h.mk 0 [] 0 (-1))
noncomputable def z9b (s1:z17) (app2:Bs) (product3:Bs):Option (z0h):=
 if app2.length≤1000000000∧product3.length≤1000000000 then (if !((lkG s1.subs_ (z0q.mk app2 product3)).isSome) then ((y1y ).bind fun (r6:(z0h))=>some r6) else (some (z0h.mk (((lkG s1.subs_ (z0q.mk app2 product3)).getD (z0h.mk 0 [] 0 0)).State) (((lkG s1.subs_ (z0q.mk app2 product3)).getD (z0h.mk 0 [] 0 0)).Plan) (((lkG s1.subs_ (z0q.mk app2 product3)).getD (z0h.mk 0 [] 0 0)).Since) (((lkG s1.subs_ (z0q.mk app2 product3)).getD (z0h.mk 0 [] 0 0)).First)))) else none
noncomputable def y1z (state1:Int):Option (Bool):=
 some ((decide (state1=2)) || (decide (state1=3)))
noncomputable def y3e (s1:z0h) (x2:z0e) (p3:z0o):Option (z0h×Bool):=
 (y1z s1.State).bind fun (r4:(Bool))=>if r4 then (if ((decide (p3.Key=s1.Plan)) || p3.Asked) then (some (s1,false)) else (some ((z0h.mk s1.State p3.Key x2.At s1.First),true))) else (if decide (s1.State=1) then (some (s1,false)) else (if p3.Asked then (some ((z0h.mk 1 p3.Key x2.At (-1)),true)) else (some ((z0h.mk 2 p3.Key x2.At x2.At),true))))
noncomputable def y1d (v12:Bool):Option (Int×Bool):=
 some (4,v12)
noncomputable def y36 (kind1:Int) (state2:Int):Option (Int×Bool):=
 if decide (kind1=2) then (some (2,decide (state2=1))) else (if decide (kind1=3) then (some (4,decide (state2=1))) else (if decide (kind1=4) then (some (3,decide (state2=2))) else (if decide (kind1=5) then (some (2,decide (state2=3))) else (if decide (state2=1) then (y1d true) else ((y1z state2).bind fun (r9:(Bool))=>y1d r9)))))
noncomputable def z8a (s2:z0h) (x3:z0e) (r9:(Int×Bool)) (c13:Int):Option (z0h×Bool):=
 some ((z0h.mk r9.1 s2.Plan x3.At c13),true)
noncomputable def y0j (c1:z0g) (s2:z0h) (x3:z0e):Option (z0h×Bool):=
 if decide (x3.Kind=1) then ((z7w c1 x3.Plan).bind fun (r5:(z0o×Bool))=>(y3e s2 x3 r5.1).bind fun (r7:(z0h×Bool))=>some (r7.1,r7.2)) else ((y36 x3.Kind s2.State).bind fun (r9:(Int×Bool))=>if !r9.2 then (some (s2,false)) else (if ((decide (r9.1=2)) && (decide (s2.First < 0))) then (z8a s2 x3 r9 x3.At) else (z8a s2 x3 r9 s2.First)))
noncomputable def z6m (v23:(List Int)) (m24:(List (z0q×Int))) (m25:(List (z0q×z0h))):Option (((List (z0q×z0h))×(List (z0q×Int))×(List Int)) ⊕ (z17×(List Int))):=
 some (.inl (m25,m24,v23))
noncomputable def z6n (v26:(List Int)) (m27:(List (z0q×Int))) (m28:(List (z0q×z0h))):Option (z17×(List Int)):=
 some ((z17.mk m28 m27),v26)
noncomputable def z41 (v1:z0g) (v3:Int) (k7:Nat) (x10:z0e) (m4:(List (z0q×z0h))) (m5:(List (z0q×Int))) (l6:(List Int)):Option (((List (z0q×z0h))×(List (z0q×Int))×(List Int)) ⊕ (z17×(List Int))):=
 if decide (v3 < x10.At) then (Option.map .inr (z6n l6 m5 m4)) else ((z9b (z17.mk m4 m5) x10.App x10.Product).bind fun (r14:(z0h))=>(y0j v1 r14 x10).bind fun (r16:(z0h×Bool))=>if !r16.2 then (if l6.length+1≤1000000000 then (z6m (l6++[(k7:Int)]) m5 m4) else none) else (if x10.App.length≤1000000000∧x10.Product.length≤1000000000 then (if decide (x10.Kind=1) then (if x10.App.length≤1000000000∧x10.Product.length≤1000000000 then (z6m l6 (ptG m5 (z0q.mk x10.App x10.Product) (k7:Int)) (ptG m4 (z0q.mk x10.App x10.Product) r16.1)) else none) else (z6m l6 m5 (ptG m4 (z0q.mk x10.App x10.Product) r16.1))) else none))
noncomputable def z8b (m4:(List (z0q×z0h))) (m5:(List (z0q×Int))) (l6:(List Int)):Option (z17×(List Int)):=
 z6n l6 m5 m4
noncomputable def z57 (v1:z0g) (v2:(List z0e)) (v3:Int):Option (z17×(List Int)):=
 if v2.length≤1000000000 then forL (fun (k:Nat) (x:z0e) (s:(List (z0q×z0h))×(List (z0q×Int))×(List Int))=>z41 v1 v3 k x s.1 s.2.1 s.2.2) (fun (s:(List (z0q×z0h))×(List (z0q×Int))×(List Int))=>z8b s.1 s.2.1 s.2.2) 0 v2 ([],[],[]) else none
noncomputable def z56 (s1:z17) (app2:Bs) (product3:Bs):Option (z0h):=
 if app2.length≤1000000000∧product3.length≤1000000000 then (if !((lkG s1.subs_ (z0q.mk app2 product3)).isSome) then ((y1y ).bind fun (r6:(z0h))=>some r6) else (some (z0h.mk (((lkG s1.subs_ (z0q.mk app2 product3)).getD (z0h.mk 0 [] 0 0)).State) (((lkG s1.subs_ (z0q.mk app2 product3)).getD (z0h.mk 0 [] 0 0)).Plan) (((lkG s1.subs_ (z0q.mk app2 product3)).getD (z0h.mk 0 [] 0 0)).Since) (((lkG s1.subs_ (z0q.mk app2 product3)).getD (z0h.mk 0 [] 0 0)).First)))) else none
noncomputable def y1e (c1:z0g) (apps2:(List z0t)) (l3:(List z0e)) (app4:Bs) (product5:Bs) (v6:Int):Option (z0h×Int):=
 (z5r c1 apps2 l3).bind fun (r7:(Int))=>if decide (r7≠0) then (some ((z0h.mk 0 [] 0 0),r7)) else ((y0i c1 apps2 app4 product5 v6).bind fun (r10:(Int))=>if decide (r10≠0) then (some ((z0h.mk 0 [] 0 0),r10)) else ((z57 c1 l3 v6).bind fun (r13:(z17×(List Int)))=>(z56 r13.1 app4 product5).bind fun (r15:(z0h))=>some (r15,0)))
noncomputable def z8y (l17:(List Int)):Option ((List Int)×Int):=
 (z8z l17).bind fun (r25:(List Int))=>some (r25,0)
noncomputable def z7b (r11:(z17×(List Int))) (x21:(z0q×z0h)) (l17:(List Int)):Option ((List Int) ⊕ ((List Int)×Int)):=
 if decide (x21.2.State=1) then (if x21.1.app_.length≤1000000000∧x21.1.product_.length≤1000000000 then (if l17.length+1≤1000000000 then (some (.inl (l17++[((lkG r11.1.asks_ x21.1).getD 0)]))) else none) else none) else (some (.inl l17))
noncomputable def z9t (c1:z0g) (apps2:(List z0t)) (l3:(List z0e)) (v4:Int):Option ((List Int)×Int):=
 (z5r c1 apps2 l3).bind fun (r5:(Int))=>if decide (r5≠0) then (some ([],r5)) else ((z5q v4).bind fun (r8:(Int))=>if decide (r8≠0) then (some ([],r8)) else ((z57 c1 l3 v4).bind fun (r11:(z17×(List Int)))=>forP (fun (x:(z0q×z0h)) (s:(List Int))=>z7b r11 x s) (fun (s:(List Int))=>z8y s) r11.1.subs_ []))
noncomputable def y3k (l1:(List Bs)):Option ((List Bs)):=
 (z96 l1).bind fun (r2:((List Bs)))=>(z4y r2).bind fun (r4:(List Bs))=>(z4k r4).bind fun (r6:((List Bs)))=>some r6
noncomputable def z5w (p1:Bs→Option (Bool)) (k2:Nat) (x5:Bs):Option (Unit ⊕ (Int)):=
 (p1 x5).bind fun (r8:Bool)=>if r8 then (some (.inr (k2:Int))) else (some (.inl ()))
noncomputable def z5x:Option (Int):=
 some (-1)
noncomputable def z4j (s1:(List Bs)) (p1:Bs→Option (Bool)):Option (Int):=
 if s1.length≤1000000000 then forL (fun (k:Nat) (x:Bs) (s:Unit)=>z5w p1 k x) (fun (s:Unit)=>z5x) 0 s1 () else none
noncomputable def z25 (j6:Int) (i17:Int) (s18:(List Bs)):Option ((Int×Int×(List Bs)) ⊕ ((List Bs))):=
 some (.inl (i17,wr (j6+1),s18))
noncomputable def z32 (i19:Int) (s20:(List Bs)):Option ((List Bs)):=
 if (0:Int)≤i19∧i19 < (s20.length:Int) then (if (0:Int)≤i19∧i19≤((s20.take i19.toNat++List.replicate (s20.length - i19.toNat) []).length:Int) then (some ((s20.take i19.toNat++List.replicate (s20.length - i19.toNat) []).take i19.toNat)) else none) else none
noncomputable def z5o (p1:Bs→Option (Bool)) (i5:Int) (j6:Int) (l7:(List Bs)):Option ((Int×Int×(List Bs)) ⊕ ((List Bs))):=
 if decide (j6 < (l7.length:Int)) then ((at? l7 j6).bind fun (x10:Bs)=>(p1 x10).bind fun (r12:Bool)=>if !r12 then ((at? l7 i5).bind fun (x15:Bs)=>z25 j6 (wr (i5+1)) (l7.set i5.toNat x10)) else (z25 j6 i5 l7)) else (Option.map .inr (z32 i5 l7))
noncomputable def z4a (s1:(List Bs)) (p1:Bs→Option (Bool)):Option ((List Bs)):=
 (z4j s1 p1).bind fun (r2:(Int))=>if decide (r2=(-1)) then some s1 else (iter (fun (s:Int×Int×(List Bs))=>z5o p1 s.1 s.2.1 s.2.2) (r2,wr (r2+1),s1))
noncomputable def z2v (s1:(List Bs)) (p1:Bs→Option (Bool)):Option (Bool):=
 (z4j s1 p1).bind fun (r2:(Int))=>some (decide (0≤r2))
noncomputable def y0f (v11:Bool):Option (Bool):=
 some v11
noncomputable def y2c (a1:Bs) (b2:Bs):Option (Bool):=
 if decide (a1=b2) then some true else ((z55 a1 [42]).bind fun (r4:(Bs×Bool))=>if r4.2 then ((z88 b2 r4.1).bind fun (r8:(Bool))=>y0f r8) else (y0f false))
noncomputable def z79 (v8:Bool):Option (Bool):=
 some v8
noncomputable def y0h (h1:Bs) (c2:Bs):Option (Bool):=
 if decide (h1≠c2) then ((y2c h1 c2).bind fun (r5:(Bool))=>z79 r5) else (z79 false)
noncomputable def y1r (s1:Bs) (c2:(List Bs)):Option (Bool):=
 (z2v c2 (fun (a0:Bs)=>y0h a0 s1)).bind fun (r3:(Bool))=>some r3
noncomputable def y2u (l1:(List Bs)):Option ((List Bs)):=
 (y3k l1).bind fun (r2:((List Bs)))=>(z96 r2).bind fun (r4:((List Bs)))=>(z4a r4 (fun (a0:Bs)=>y1r a0 r2)).bind fun (r6:((List Bs)))=>some r6
noncomputable def z87 (l1:(List Bs)):Option ((List Bs)×Int):=
 (z7d l1).bind fun (r2:(Int))=>if decide (r2≠0) then (some ([],r2)) else ((y2u l1).bind fun (r5:((List Bs)))=>some (r5,0))
noncomputable def z9r (v31:(List Bs)):Option ((List Bs) ⊕ ((List Bs)×Int)):=
 some (.inl v31)
noncomputable def z8l (v4:Bs) (r15:(z17×(List Int))) (k18:Nat) (x21:z0m) (l17:(List Bs)):Option ((List Bs) ⊕ ((List Bs)×Int)):=
 (z56 r15.1 v4 x21.Key).bind fun (r27:(z0h))=>if decide (r27.State=2) then (if l17.length+x21.Scopes.length≤1000000000 then (z9r (l17++x21.Scopes)) else none) else (z9r l17)
noncomputable def z50 (l17:(List Bs)):Option ((List Bs)×Int):=
 if decide (50 < (l17.length:Int)) then (some ([],2)) else ((z87 l17).bind fun (r23:((List Bs)×Int))=>some (r23.1,r23.2))
noncomputable def y0k (v1:z0g) (v2:(List z0t)) (v3:(List z0e)) (v4:Bs) (v5:Int):Option ((List Bs)×Int):=
 (z5r v1 v2 v3).bind fun (r6:(Int))=>if decide (r6≠0) then (some ([],r6)) else ((z97 v2 v4).bind fun (r9:(Int×Bool))=>if !r9.2 then (some ([],8)) else ((z5q v5).bind fun (r12:(Int))=>if decide (r12≠0) then (some ([],r12)) else ((z57 v1 v3 v5).bind fun (r15:(z17×(List Int)))=>if v1.Products.length≤1000000000 then forL (fun (k:Nat) (x:z0m) (s:(List Bs))=>z8l v4 r15 k x s) (fun (s:(List Bs))=>z50 s) 0 v1.Products [] else none)))
noncomputable def z7y (is1:Bool) (e2:Int):Option (Int):=
 if is1 then some e2 else some 0
noncomputable def z30 (v1:Int):Option (Int):=
 (y0n v1).bind fun (r2:(Bool))=>(z7y (!r2) 1).bind fun (r4:(Int))=>some r4
noncomputable def y1b (k2:Nat) (x5:Int):Option (Unit ⊕ (Int)):=
 if decide (x5≠0) then (some (.inr x5)) else (some (.inl ()))
noncomputable def y1c:Option (Int):=
 some 0
noncomputable def z5z (l1:(List Int)):Option (Int):=
 if l1.length≤1000000000 then forL (fun (k:Nat) (x:Int) (s:Unit)=>y1b k x) (fun (s:Unit)=>y1c) 0 l1 () else none
noncomputable def y0t (v5:Int) (k10:Nat) (x11:z0h):Option (Unit ⊕ (z0h)):=
 if decide (x11.Since≤v5) then (some (.inr x11)) else (some (.inl ()))
noncomputable def y0u:Option (z0h):=
 (z7x ).bind fun (r15:(z0h))=>some r15
noncomputable def z5c (c1:z0g) (l2:(List z0e)) (app3:Bs) (product4:Bs) (v5:Int):Option (z0h):=
 (y0m c1 l2 app3 product4).bind fun (r6:((List z0h)×(List Int)))=>if r6.1.length≤1000000000 then back (fun (k:Nat) (x:z0h) (s:Unit)=>y0t v5 k x) (fun (s:Unit)=>y0u) r6.1 r6.1.length () else none
noncomputable def z6d (out15:(List Int)):Option ((List Int) ⊕ ((List Int))):=
 some (.inl out15)
noncomputable def z5a (c1:z0g) (l2:(List z0e)) (v3:Int) (k5:Nat) (x8:z0e) (l4:(List Int)):Option ((List Int) ⊕ ((List Int))):=
 (z5c c1 l2 x8.App x8.Product v3).bind fun (r11:(z0h))=>if (((decide (x8.Kind=1)) && (decide (r11.State=1))) && (decide (r11.Since=x8.At))) then (if l4.length+1≤1000000000 then (z6d (l4++[(k5:Int)])) else none) else (z6d l4)
noncomputable def z6e (l4:(List Int)):Option ((List Int)):=
 some l4
noncomputable def z8q (c1:z0g) (l2:(List z0e)) (v3:Int):Option ((List Int)):=
 if l2.length≤1000000000 then forL (fun (k:Nat) (x:z0e) (s:(List Int))=>z5a c1 l2 v3 k x s) (fun (s:(List Int))=>z6e s) 0 l2 [] else none
noncomputable def y1u (a1:Bs) (b2:Bs):Option (Bool):=
 (z55 a1 [42]).bind fun (r3:(Bs×Bool))=>if r3.2 then ((z88 b2 r3.1).bind fun (r6:(Bool))=>some r6) else (some (decide (a1=b2)))
noncomputable def z6f (v8:Bool):Option (Bool):=
 some v8
noncomputable def z8s (o1:Bs) (c2:Bs):Option (Bool):=
 if decide (o1≠c2) then ((y1u o1 c2).bind fun (r5:(Bool))=>z6f r5) else (z6f false)
noncomputable def z7j (out17:(List Bs)):Option ((List Bs) ⊕ ((List Bs))):=
 some (.inl out17)
noncomputable def y03 (l1:(List Bs)) (k3:Nat) (x6:Bs) (l2:(List Bs)):Option ((List Bs) ⊕ ((List Bs))):=
 (z2v l1 (fun (a0:Bs)=>z8s a0 x6)).bind fun (r13:(Bool))=>if !r13 then (if l2.length+1≤1000000000 then (z7j (l2++[x6])) else none) else (z7j l2)
noncomputable def y04 (l2:(List Bs)):Option ((List Bs)):=
 (z4y l2).bind fun (r7:(List Bs))=>(z4k r7).bind fun (r9:((List Bs)))=>some r9
noncomputable def z90 (l1:(List Bs)):Option ((List Bs)):=
 if l1.length≤1000000000 then forL (fun (k:Nat) (x:Bs) (s:(List Bs))=>y03 l1 k x s) (fun (s:(List Bs))=>y04 s) 0 l1 [] else none
noncomputable def z6z (out19:(List Bs)):Option ((List Bs) ⊕ ((List Bs)×Int)):=
 some (.inl out19)
noncomputable def z5t (c1:z0g) (l2:(List z0e)) (app3:Bs) (v4:Int) (k6:Nat) (x9:z0m) (l5:(List Bs)):Option ((List Bs) ⊕ ((List Bs)×Int)):=
 (z5c c1 l2 app3 x9.Key v4).bind fun (r15:(z0h))=>if decide (r15.State=2) then (if l5.length+x9.Scopes.length≤1000000000 then (z6z (l5++x9.Scopes)) else none) else (z6z l5)
noncomputable def z34 (l5:(List Bs)):Option ((List Bs)×Int):=
 if decide (50 < (l5.length:Int)) then (some ([],2)) else ((z90 l5).bind fun (r11:((List Bs)))=>some (r11,0))
noncomputable def z9c (c1:z0g) (l2:(List z0e)) (app3:Bs) (v4:Int):Option ((List Bs)×Int):=
 if c1.Products.length≤1000000000 then forL (fun (k:Nat) (x:z0m) (s:(List Bs))=>z5t c1 l2 app3 v4 k x s) (fun (s:(List Bs))=>z34 s) 0 c1.Products [] else none
noncomputable def z9o (s2:(List Int)) (k4:Nat) (x7:Int):Option (Unit ⊕ (Bool)):=
 (s2[k4]?).bind fun (x10:Int)=>if decide (x7≠x10) then (some (.inr false)) else (some (.inl ()))
noncomputable def z9p:Option (Bool):=
 some true
noncomputable def z7m (s1:(List Int)) (s2:(List Int)):Option (Bool):=
 if decide ((s1.length:Int)≠(s2.length:Int)) then some false else (if s1.length≤1000000000 then forL (fun (k:Nat) (x:Int) (s:Unit)=>z9o s2 k x) (fun (s:Unit)=>z9p) 0 s1 () else none)
noncomputable def z61 (s2:(List Bs)) (k4:Nat) (x7:Bs):Option (Unit ⊕ (Bool)):=
 (s2[k4]?).bind fun (x10:Bs)=>if decide (x7≠x10) then (some (.inr false)) else (some (.inl ()))
noncomputable def z62:Option (Bool):=
 some true
noncomputable def z5h (s1:(List Bs)) (s2:(List Bs)):Option (Bool):=
 if decide ((s1.length:Int)≠(s2.length:Int)) then some false else (if s1.length≤1000000000 then forL (fun (k:Nat) (x:Bs) (s:Unit)=>z61 s2 k x) (fun (s:Unit)=>z62) 0 s1 () else none)
noncomputable def z86 (sum3:Int) (x7:z01) (to14:Int):Option (Int ⊕ (Int)):=
 some (.inl (wr (sum3+(wr ((max 0 (wr ((wr (to14 - x7.From))+1))) * x7.Cents)))))
noncomputable def z85 (p1:z0o) (calls2:Int) (k4:Nat) (x7:z01) (sum3:Int):Option (Int ⊕ (Int)):=
 if decide (((k4:Int)+1) < (p1.Tiers.length:Int)) then ((p1.Tiers[(k4+1)]?).bind fun (x12:z01)=>z86 sum3 x7 (min (max 0 (wr (calls2 - p1.Free))) (wr (x12.From - 1)))) else (z86 sum3 x7 (max 0 (wr (calls2 - p1.Free))))
noncomputable def y0g (sum3:Int):Option (Int):=
 if ((0:Int)≤sum3∧sum3≤9223372036854775807)∧(0:Int) < 1000 then (some (sum3 / 1000)) else none
noncomputable def y2d (p1:z0o) (calls2:Int):Option (Int):=
 if p1.Tiers.length≤1000000000 then forL (fun (k:Nat) (x:z01) (s:Int)=>z85 p1 calls2 k x s) (fun (s:Int)=>y0g s) 0 p1.Tiers 0 else none
noncomputable def y2e (c1:z0g) (plan2:Bs) (calls3:Int):Option (Int×Int):=
 (z58 c1).bind fun (r4:(Int))=>if decide (r4≠0) then (some (0,r4)) else ((z7w c1 plan2).bind fun (r7:(z0o×Bool))=>if !r7.2 then (some (0,8)) else ((z6p calls3 0 1000000000000).bind fun (r10:(Bool))=>if r10 then (some (0,1)) else ((y2d r7.1 calls3).bind fun (r13:(Int))=>some (r13,0))))
noncomputable def y0o  : Option (Bool):=
 (y2e (z0g.mk ([(z0m.mk [112] [])]) ([(z0o.mk [113] [112] 0 0 [(z01.mk 1 2000)] 0 0 false)])) [113] 3).bind fun (r1:(Int×Int))=>some ((decide (r1.2=0)) && (decide (r1.1=6)))
noncomputable def z2e (v90:Bool):Option (Bool):=
 some v90
noncomputable def z38 (r12:(z0h×Int)) (r14:((List Int)×Int)) (r16:((List Bs)×Int)) (v37:Int) (r40:(Int)) (c53:Int) (c54:Bs) (c55:Int) (c56:Int) (v60:(List Int)) (v64:Int) (v65:(List Bs)):Option (Bool):=
 if decide (r12.2=v37) then (if ((r12.1.State == c53) && ((r12.1.Plan == c54) && ((r12.1.Since == c55) && ((r12.1.First == c56) && true)))) then (if decide (r14.2=r40) then ((z7m r14.1 v60).bind fun (r72:(Bool))=>if r72 then (if decide (r16.2=v64) then ((z5h r16.1 v65).bind fun (r78:(Bool))=>if r78 then ((y0o ).bind fun (r82:(Bool))=>z2e r82) else (z2e false)) else (z2e false)) else (z2e false)) else (z2e false)) else (z2e false)) else (z2e false)
noncomputable def z2x (r4:(z0g×(List z0t)×(List z0e)×Int×z0d)) (r6:(Bs×z0d)) (r10:(Int×z0d)) (r12:(z0h×Int)) (r14:((List Int)×Int)) (r16:((List Bs)×Int)) (v37:Int) (r40:(Int)) (r48:(Int)) (c53:Int) (c54:Bs) (c55:Int) (c56:Int) (v60:(List Int)):Option (Bool):=
 if decide (r48=0) then ((z9c r4.1 r4.2.2.1 r6.1 r10.1).bind fun (r62:((List Bs)×Int))=>z38 r12 r14 r16 v37 r40 c53 c54 c55 c56 v60 r62.2 r62.1) else (z38 r12 r14 r16 v37 r40 c53 c54 c55 c56 v60 r48 [])
noncomputable def z2y (r4:(z0g×(List z0t)×(List z0e)×Int×z0d)) (r6:(Bs×z0d)) (r10:(Int×z0d)) (r12:(z0h×Int)) (r14:((List Int)×Int)) (r16:((List Bs)×Int)) (v37:Int) (r40:(Int)) (r48:(Int)) (c53:Int) (c54:Bs) (c55:Int) (c56:Int):Option (Bool):=
 if decide (r40=0) then ((z8q r4.1 r4.2.2.1 r10.1).bind fun (r58:((List Int)))=>z2x r4 r6 r10 r12 r14 r16 v37 r40 r48 c53 c54 c55 c56 r58) else (z2x r4 r6 r10 r12 r14 r16 v37 r40 r48 c53 c54 c55 c56 [])
noncomputable def z39 (r4:(z0g×(List z0t)×(List z0e)×Int×z0d)) (r6:(Bs×z0d)) (r8:(Bs×z0d)) (r10:(Int×z0d)) (r12:(z0h×Int)) (r14:((List Int)×Int)) (r16:((List Bs)×Int)) (v37:Int):Option (Bool):=
 (z30 r10.1).bind fun (r38:(Int))=>(z5z [r4.2.2.2.1,r38]).bind fun (r40:(Int))=>(z8m r4.2.1 r6.1).bind fun (r42:(Int))=>(z7y (decide (r42 < 0)) 8).bind fun (r44:(Int))=>(z30 r10.1).bind fun (r46:(Int))=>(z5z [r4.2.2.2.1,r44,r46]).bind fun (r48:(Int))=>if decide (v37=0) then ((z5c r4.1 r4.2.2.1 r6.1 r8.1 r10.1).bind fun (r51:(z0h))=>z2y r4 r6 r10 r12 r14 r16 v37 r40 r48 r51.State r51.Plan r51.Since r51.First) else (z2y r4 r6 r10 r12 r14 r16 v37 r40 r48 0 [] 0 0)
noncomputable def z8v (v1:(List Int)):Option (Bool):=
 (z3t (z0d.mk v1 0) 0 12).bind fun (r2:(Int×z0d))=>(y0p r2.2 r2.1).bind fun (r4:(z0g×(List z0t)×(List z0e)×Int×z0d))=>(z36 r4.2.2.2.2).bind fun (r6:(Bs×z0d))=>(z27 r6.2).bind fun (r8:(Bs×z0d))=>(z4o r8.2).bind fun (r10:(Int×z0d))=>(y1e r4.1 r4.2.1 r4.2.2.1 r6.1 r8.1 r10.1).bind fun (r12:(z0h×Int))=>(z9t r4.1 r4.2.1 r4.2.2.1 r10.1).bind fun (r14:((List Int)×Int))=>(y0k r4.1 r4.2.1 r4.2.2.1 r6.1 r10.1).bind fun (r16:((List Bs)×Int))=>(z8m r4.2.1 r6.1).bind fun (r18:(Int))=>if decide (r18 < 0) then ((z7y true 8).bind fun (r31:(Int))=>(z30 r10.1).bind fun (r33:(Int))=>(z5z [r4.2.2.2.1,r31,r33]).bind fun (r35:(Int))=>z39 r4 r6 r8 r10 r12 r14 r16 r35) else ((z5s r4.1 r8.1).bind fun (r22:(Int))=>(z7y (decide (r22 < 0)) 8).bind fun (r24:(Int))=>(z30 r10.1).bind fun (r26:(Int))=>(z5z [r4.2.2.2.1,r24,r26]).bind fun (r28:(Int))=>z39 r4 r6 r8 r10 r12 r14 r16 r28)
end Go.Proofs.YticadaaoggpenaaGreatDoor
