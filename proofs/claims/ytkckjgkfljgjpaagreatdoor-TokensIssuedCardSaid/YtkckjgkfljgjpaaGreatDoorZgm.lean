/- Plain models of functions. Printed by a program. -/
import Derived.Test.YtkckjgkfljgjpaaGreatDoorMc
import Derived.Test.YtkckjgkfljgjpaaGreatDoorRng
import Derived.Test.YtkckjgkfljgjpaaGreatDoorMl
namespace Go.Proofs.YtkckjgkfljgjpaaGreatDoor
set_option linter.unusedVariables false
set_option maxRecDepth 20000
structure z0d where
 L:(List Int)
 at_:Int
structure z0g where
 Id:Bs
 Secret:Bs
 From:Int
 To:Int
 Until:Int
structure z0e where
 Id:Bs
 Subject:Bs
 Issuer:Bs
 Parent:Bs
 Audience:(List Bs)
 Scopes:(List Bs)
 From:Int
 To:Int
structure z0i where
 lines_:(List Bs)
 ended_:Bool
 at_:Int
 bad_:Bool
def z6d (x:Int):Bool:=decide (x=0) || decide (x=1) || decide (x=2) || decide (x=3)
def x2r (c:z0e) (x:Int):Bs:=if x=0 then c.Id else if x=1 then c.Subject else if x=2 then c.Issuer else if x=3 then c.Parent else []
def y07 (c:z0e) (x:Int) (y:Bs):z0e:=if x=0 then z0e.mk y c.Subject c.Issuer c.Parent c.Audience c.Scopes c.From c.To else if x=1 then z0e.mk c.Id y c.Issuer c.Parent c.Audience c.Scopes c.From c.To else if x=2 then z0e.mk c.Id c.Subject y c.Parent c.Audience c.Scopes c.From c.To else if x=3 then z0e.mk c.Id c.Subject c.Issuer y c.Audience c.Scopes c.From c.To else c
noncomputable def z9a (x6:Int):Option (Int):=
 some x6
noncomputable def z8s (x1:Int) (n2:Int):Option (Int):=
 if decide (n2 < 1) then some 0 else (if n2≠0 then (if decide ((Int.tmod x1 n2) < 0) then (z9a (wr ((Int.tmod x1 n2)+n2))) else (z9a (Int.tmod x1 n2))) else none)
noncomputable def z1i (s1:z0d) (n2:Int):Option (Int×z0d):=
 if decide ((s1.L.length:Int)=0) then ((z8s (wr ((wr (s1.at_+1)) * 7919)) n2).bind fun (r4:(Int))=>some (r4,(z0d.mk s1.L (wr (s1.at_+1))))) else (if (s1.L.length:Int)≠0 then (if ((0:Int)≤(wr ((wr (s1.at_+1)) - 1))∧(wr ((wr (s1.at_+1)) - 1))≤9223372036854775807)∧(0:Int) < (s1.L.length:Int) then ((at? s1.L (Int.tmod (wr ((wr (s1.at_+1)) - 1)) (s1.L.length:Int))).bind fun (x8:Int)=>(z8s x8 1073741824).bind fun (r10:(Int))=>(z8s (wr (r10+(wr (((wr ((wr (s1.at_+1)) - 1)) / (s1.L.length:Int)) * (wr (7919+(Int.tmod (wr ((wr (s1.at_+1)) - 1)) (s1.L.length:Int)))))))) n2).bind fun (r12:(Int))=>some (r12,(z0d.mk s1.L (wr (s1.at_+1))))) else none) else none)
noncomputable def z4r (s1:z0d) (low2:Int) (high3:Int):Option (Int×z0d):=
 if decide (high3 < low2) then (some (low2,s1)) else ((z1i s1 (wr ((wr (high3 - low2))+1))).bind fun (r5:(Int×z0d))=>some (wr (low2+r5.1),r5.2))
noncomputable def z1t (s1:z0d) (l2:(List Int)):Option (Int×z0d):=
 (z1i s1 (l2.length:Int)).bind fun (r3:(Int×z0d))=>(at? l2 r3.1).bind fun (x5:Int)=>some (x5,r3.2)
noncomputable def z03 (s1:z0d) (l2:(List Bs)):Option (Bs×z0d):=
 (z1i s1 (l2.length:Int)).bind fun (r3:(Int×z0d))=>(at? l2 r3.1).bind fun (x5:Bs)=>some (x5,r3.2)
noncomputable def z1o (s1:z0d) (n2:Int):Option (Bool×z0d):=
 (z1i s1 n2).bind fun (r3:(Int×z0d))=>some (decide (r3.1=0),r3.2)
noncomputable def z55 (k10:Nat) (x13:Bs) (v6:Int) (c7:(List Int)) (c8:Int) (l9:(List z0g)):Option ((Int×(List Int)×Int×(List z0g)) ⊕ ((List z0g)×z0d)):=
 (z1t (z0d.mk c7 c8) [0,10,50,100]).bind fun (r16:(Int×z0d))=>(z03 r16.2 ([[111,110,101],[116,119,111],[107,33]])).bind fun (r18:(Bs×z0d))=>(z1t r18.2 [0,10,100,200]).bind fun (r20:(Int×z0d))=>(z1t r20.2 [0,5,100,1000]).bind fun (r22:(Int×z0d))=>if l9.length+1≤1000000000 then (some (.inl (wr (v6+r16.1),r22.2.L,r22.2.at_,(l9++[(z0g.mk x13 r18.1 (wr (v6+r16.1)) (wr ((wr (v6+r16.1))+r20.1)) (wr ((wr ((wr (v6+r16.1))+r20.1))+r22.1)))])))) else none
noncomputable def z77 (v6:Int) (c7:(List Int)) (c8:Int) (l9:(List z0g)):Option ((List z0g)×z0d):=
 some (l9,(z0d.mk c7 c8))
noncomputable def z4h (s1:z0d):Option ((List z0g)×z0d):=
 (z4r s1 0 3).bind fun (r2:(Int×z0d))=>(sub? ([[115,49],[115,50],[115,51]]) 0 r2.1).bind fun (l4:(List Bs))=>if l4.length≤1000000000 then forL (fun (k:Nat) (x:Bs) (s:Int×(List Int)×Int×(List z0g))=>z55 k x s.1 s.2.1 s.2.2.1 s.2.2.2) (fun (s:Int×(List Int)×Int×(List z0g))=>z77 s.1 s.2.1 s.2.2.1 s.2.2.2) 0 l4 (0,r2.2.L,r2.2.at_,[]) else none
noncomputable def z60 (s1:z0d):Option (Bs×z0d):=
 (z41 [115] 101).bind fun (r2:(Bs))=>(z03 s1 ([[111,110,101],[116,119,111],[116,104,114,101,101],[107,33],[111,110,101],[],[97,32,98],[127],r2])).bind fun (r4:(Bs×z0d))=>some (r4.1,r4.2)
noncomputable def z4i (s1:z0d) (low2:Int) (high3:Int):Option (Int×z0d):=
 (z1o s1 12).bind fun (r4:(Bool×z0d))=>if r4.1 then ((z1t r4.2 [wr (low2 - 1),wr (high3+1),low2,high3,(-1099511627776),1099511627776]).bind fun (r7:(Int×z0d))=>some (r7.1,r7.2)) else ((z4r r4.2 low2 high3).bind fun (r9:(Int×z0d))=>some (r9.1,r9.2))
noncomputable def z2m (out29:(List z0g)) (c30:(List Int)) (c31:Int):Option ((List z0g)×z0d):=
 some (out29,(z0d.mk c30 c31))
noncomputable def z3g (r2:((List z0g)×z0d)) (v9:Bool) (c10:(List Int)) (c11:Int):Option ((List z0g)×z0d):=
 if v9 then ((z1i (z0d.mk c10 c11) (r2.1.length:Int)).bind fun (r13:(Int×z0d))=>(at? r2.1 r13.1).bind fun (x15:z0g)=>(z1i r13.2 3).bind fun (r17:(Int×z0d))=>if decide (r17.1=0) then ((z03 r17.2 ([[],[65],[115,49]])).bind fun (r20:(Bs×z0d))=>z2m (r2.1.set r13.1.toNat (z0g.mk r20.1 x15.Secret x15.From x15.To x15.Until)) r20.2.L r20.2.at_) else (if decide (r17.1=1) then ((z60 r17.2).bind fun (r23:(Bs×z0d))=>z2m (r2.1.set r13.1.toNat (z0g.mk x15.Id r23.1 x15.From x15.To x15.Until)) r23.2.L r23.2.at_) else ((z4i r17.2 0 300).bind fun (r25:(Int×z0d))=>(z4i r25.2 0 300).bind fun (r27:(Int×z0d))=>z2m ((r2.1.set r13.1.toNat (z0g.mk x15.Id x15.Secret r25.1 x15.To x15.Until)).set r13.1.toNat (z0g.mk x15.Id x15.Secret r25.1 r27.1 x15.Until)) r27.2.L r27.2.at_))) else (z2m r2.1 c10 c11)
noncomputable def z6j (s1:z0d):Option ((List z0g)×z0d):=
 (z4h s1).bind fun (r2:((List z0g)×z0d))=>if decide (0 < (r2.1.length:Int)) then ((z1o r2.2 12).bind fun (r6:(Bool×z0d))=>z3g r2 r6.1 r6.2.L r6.2.at_) else (z3g r2 false r2.2.L r2.2.at_)
noncomputable def z26 (k7:Nat) (c4:(List Int)) (c5:Int) (l6:(List Bs)):Option (((List Int)×Int×(List Bs)) ⊕ ((List Bs)×z0d)):=
 (z03 (z0d.mk c4 c5) ([[97],[97,58,42],[97,58,98],[97,58,98,58,42],[97,58,98,58,99],[98],[98,58,42],[98,58,99],[42]])).bind fun (r11:(Bs×z0d))=>if l6.length+1≤1000000000 then (some (.inl (r11.2.L,r11.2.at_,(l6++[r11.1])))) else none
noncomputable def z4l (c4:(List Int)) (c5:Int) (l6:(List Bs)):Option ((List Bs)×z0d):=
 some (l6,(z0d.mk c4 c5))
noncomputable def z15 (s1:z0d):Option ((List Bs)×z0d):=
 (z4r s1 0 4).bind fun (r2:(Int×z0d))=>if r2.1≤1000000000 then rng (fun (k:Nat) (s:(List Int)×Int×(List Bs))=>z26 k s.1 s.2.1 s.2.2) (fun (s:(List Int)×Int×(List Bs))=>z4l s.1 s.2.1 s.2.2) r2.1.toNat 0 (r2.2.L,r2.2.at_,[]) else none
noncomputable def z6g (p1:Bs→Option (Bool)) (k2:Nat) (x5:Bs):Option (Unit ⊕ (Int)):=
 (p1 x5).bind fun (r8:Bool)=>if r8 then (some (.inr (k2:Int))) else (some (.inl ()))
noncomputable def z6h:Option (Int):=
 some (-1)
noncomputable def z4n (s1:(List Bs)) (p1:Bs→Option (Bool)):Option (Int):=
 if s1.length≤1000000000 then forL (fun (k:Nat) (x:Bs) (s:Unit)=>z6g p1 k x) (fun (s:Unit)=>z6h) 0 s1 () else none
noncomputable def z1r (s1:(List Bs)) (p1:Bs→Option (Bool)):Option (Bool):=
 (z4n s1 p1).bind fun (r2:(Int))=>some (decide (0≤r2))
noncomputable def y1q (a1:Bs) (b2:Bs):Option (Bool):=
 (z6s a1 [42]).bind fun (r3:(Bs×Bool))=>if r3.2 then ((z9o b2 r3.1).bind fun (r6:(Bool))=>some r6) else (some (decide (a1=b2)))
noncomputable def z64 (v8:Bool):Option (Bool):=
 some v8
noncomputable def z8x (o1:Bs) (c2:Bs):Option (Bool):=
 if decide (o1≠c2) then ((y1q o1 c2).bind fun (r5:(Bool))=>z64 r5) else (z64 false)
noncomputable def z74 (out17:(List Bs)):Option ((List Bs) ⊕ ((List Bs))):=
 some (.inl out17)
noncomputable def y0y (l1:(List Bs)) (k3:Nat) (x6:Bs) (l2:(List Bs)):Option ((List Bs) ⊕ ((List Bs))):=
 (z1r l1 (fun (a0:Bs)=>z8x a0 x6)).bind fun (r13:(Bool))=>if !r13 then (if l2.length+1≤1000000000 then (z74 (l2++[x6])) else none) else (z74 l2)
noncomputable def y0z (l2:(List Bs)):Option ((List Bs)):=
 (z5f l2).bind fun (r7:(List Bs))=>(z4o r7).bind fun (r9:((List Bs)))=>some r9
noncomputable def z8m (l1:(List Bs)):Option ((List Bs)):=
 if l1.length≤1000000000 then forL (fun (k:Nat) (x:Bs) (s:(List Bs))=>y0y l1 k x s) (fun (s:(List Bs))=>y0z s) 0 l1 [] else none
noncomputable def z1v (s1:z0d):Option (z0e×z0d):=
 (z03 s1 ([[116,49],[116,49],[116,50],[116,51]])).bind fun (r2:(Bs×z0d))=>(z03 r2.2 ([[97,110,110],[98,111,98]])).bind fun (r4:(Bs×z0d))=>(z03 r4.2 ([[103,97,116,101],[103,97,116,101],[103,97,116,101],[111,116,104,101,114]])).bind fun (r6:(Bs×z0d))=>(z03 r6.2 ([[],[],[],[116,48],[116,50]])).bind fun (r8:(Bs×z0d))=>(z1i r8.2 5).bind fun (r10:(Int×z0d))=>(at? ([[],[],[[115,104,111,112]],[[109,97,112,115],[115,104,111,112]],[[109,97,112,115]]]) r10.1).bind fun (x12:(List Bs))=>(z15 r10.2).bind fun (r14:((List Bs)×z0d))=>(z8m r14.1).bind fun (r16:((List Bs)))=>(z1t r14.2 [0,50,100]).bind fun (r18:(Int×z0d))=>(z1t r18.2 [1,50,100,200]).bind fun (r20:(Int×z0d))=>some ((z0e.mk r2.1 r4.1 r6.1 r8.1 x12 r16 r18.1 (wr (r18.1+r20.1))),r20.2)
noncomputable def z7d (s1:z0d):Option (Bs×z0d):=
 (z1o s1 25).bind fun (r2:(Bool×z0d))=>if r2.1 then ((z41 [97,58] 10).bind fun (r5:(Bs))=>if r5.length+[97].length≤1000000000 then ((z03 r2.2 ([[],[97,58,42,58,98],[65],[97,58,58,98],[97,58],[42,42],[97,42],(r5++[97])])).bind fun (r8:(Bs×z0d))=>some (r8.1,r8.2)) else none) else ((z03 r2.2 ([[42],[97],[97,58,42],[97,58,98],[97,58,98,58,42],[97,58,98,58,99],[98],[98,58,42],[98,58,99],[99]])).bind fun (r10:(Bs×z0d))=>some (r10.1,r10.2))
noncomputable def z5d (out17:(List Bs)) (c18:(List Int)) (c19:Int):Option ((List Bs)×z0d):=
 some (out17,(z0d.mk c18 c19))
noncomputable def z3o (out10:(List Bs)) (c11:(List Int)) (c12:Int):Option ((List Bs)×z0d):=
 (z1o (z0d.mk c11 c12) 60).bind fun (r13:(Bool×z0d))=>if r13.1 then (if 51≤1000000000 then (z5d (List.replicate 51 []) r13.2.L r13.2.at_) else none) else (z5d out10 r13.2.L r13.2.at_)
noncomputable def z61 (s1:z0d):Option ((List Bs)×z0d):=
 (z15 s1).bind fun (r2:((List Bs)×z0d))=>(z1o r2.2 6).bind fun (r4:(Bool×z0d))=>if r4.1 then ((z7d r4.2).bind fun (r7:(Bs×z0d))=>if r2.1.length+1≤1000000000 then (z3o (r2.1++[r7.1]) r7.2.L r7.2.at_) else none) else (z3o r2.1 r4.2.L r4.2.at_)
noncomputable def z13 (c31:(List Int)) (c32:Int) (c33:Bs) (c34:Bs) (c35:Bs) (c36:Bs) (c37:(List Bs)) (c38:(List Bs)) (c39:Int) (c40:Int):Option (z0e×z0d):=
 some ((z0e.mk c33 c34 c35 c36 c37 c38 c39 c40),(z0d.mk c31 c32))
noncomputable def z62 (s1:z0d):Option (z0e×z0d):=
 (z1v s1).bind fun (r2:(z0e×z0d))=>(z1o r2.2 8).bind fun (r4:(Bool×z0d))=>if r4.1 then ((z1i r4.2 5).bind fun (r7:(Int×z0d))=>if decide (r7.1=0) then ((z03 r7.2 ([[],[65],[116,49]])).bind fun (r10:(Bs×z0d))=>(z03 r10.2 ([[97,110,110],[]])).bind fun (r12:(Bs×z0d))=>z13 r12.2.L r12.2.at_ r10.1 r12.1 r2.1.Issuer r2.1.Parent r2.1.Audience r2.1.Scopes r2.1.From r2.1.To) else (if decide (r7.1=1) then ((z03 r7.2 ([[],[103,97,116,101]])).bind fun (r15:(Bs×z0d))=>(z03 r15.2 ([[65],[116,48]])).bind fun (r17:(Bs×z0d))=>z13 r17.2.L r17.2.at_ r2.1.Id r2.1.Subject r15.1 r17.1 r2.1.Audience r2.1.Scopes r2.1.From r2.1.To) else (if decide (r7.1=2) then ((z1i r7.2 3).bind fun (r20:(Int×z0d))=>(at? ([[[115,104,111,112],[109,97,112,115]],[[]],[[97],[97]]]) r20.1).bind fun (x22:(List Bs))=>z13 r20.2.L r20.2.at_ r2.1.Id r2.1.Subject r2.1.Issuer r2.1.Parent x22 r2.1.Scopes r2.1.From r2.1.To) else (if decide (r7.1=3) then ((z61 r7.2).bind fun (r25:((List Bs)×z0d))=>z13 r25.2.L r25.2.at_ r2.1.Id r2.1.Subject r2.1.Issuer r2.1.Parent r2.1.Audience r25.1 r2.1.From r2.1.To) else ((z4i r7.2 0 300).bind fun (r27:(Int×z0d))=>(z4i r27.2 0 300).bind fun (r29:(Int×z0d))=>z13 r29.2.L r29.2.at_ r2.1.Id r2.1.Subject r2.1.Issuer r2.1.Parent r2.1.Audience r2.1.Scopes r27.1 r29.1))))) else (z13 r4.2.L r4.2.at_ r2.1.Id r2.1.Subject r2.1.Issuer r2.1.Parent r2.1.Audience r2.1.Scopes r2.1.From r2.1.To)
noncomputable def z5q (s1:z0d):Option (Int×z0d):=
 (z1t s1 [0,10,49,50,60,99,100,101,149,150,200,300,1000,(-1),345686400000]).bind fun (r2:(Int×z0d))=>some (r2.1,r2.2)
noncomputable def y4v (i2:Nat) (x5:UInt8):Option (Unit ⊕ (Bool)):=
 if !(((decide (97≤(x5.toNat:Int))) && (decide ((x5.toNat:Int)≤122))) || ((decide (0 < (i2:Int))) && ((((decide (48≤(x5.toNat:Int))) && (decide ((x5.toNat:Int)≤57))) || (decide ((x5.toNat:Int)=45))) || (decide ((x5.toNat:Int)=95))))) then (some (.inr false)) else (some (.inl ()))
noncomputable def y6d (s1:Bs):Option (Bool):=
 some ((decide (s1≠[])) && (decide ((s1.length:Int)≤40)))
noncomputable def z7y (s1:Bs):Option (Bool):=
 if s1.length≤1000000000 then forL (fun (k:Nat) (x:UInt8) (s:Unit)=>y4v k x) (fun (s:Unit)=>y6d s1) 0 s1 () else none
noncomputable def z4e (p1:z0g→Option (Bool)) (k2:Nat) (x5:z0g):Option (Unit ⊕ (Int)):=
 (p1 x5).bind fun (r8:Bool)=>if r8 then (some (.inr (k2:Int))) else (some (.inl ()))
noncomputable def z4f:Option (Int):=
 some (-1)
noncomputable def z1k (s1:(List z0g)) (p1:z0g→Option (Bool)):Option (Int):=
 if s1.length≤1000000000 then forL (fun (k:Nat) (x:z0g) (s:Unit)=>z4e p1 k x) (fun (s:Unit)=>z4f) 0 s1 () else none
noncomputable def z1x (s1:(List z0g)) (p1:z0g→Option (Bool)):Option (Bool):=
 (z1k s1 p1).bind fun (r2:(Int))=>some (decide (0≤r2))
noncomputable def z8e (o1:z0g) (c2:z0g):Option (Bool):=
 some (decide (o1.Id=c2.Id))
noncomputable def z7i (v13:Bool):Option (Unit ⊕ (Int)):=
 if v13 then (some (.inr 3)) else (some (.inl ()))
noncomputable def y0b (k2:Nat) (x5:UInt8):Option (Unit ⊕ (Int)):=
 if decide ((x5.toNat:Int) < 33) then (z7i true) else (z7i (decide (126 < (x5.toNat:Int))))
noncomputable def y0c (s1:Bs):Option (Int):=
 if decide (s1=[]) then some 3 else (if decide (100 < (s1.length:Int)) then some 2 else some 0)
noncomputable def z9m (s1:Bs):Option (Int):=
 if s1.length≤1000000000 then forL (fun (k:Nat) (x:UInt8) (s:Unit)=>y0b k x) (fun (s:Unit)=>y0c s1) 0 s1 () else none
noncomputable def y31 (n1:Int) (low2:Int) (high3:Int):Option (Bool):=
 some ((decide (n1 < low2)) || (decide (high3 < n1)))
noncomputable def z5e (v24:Bool):Option (Int):=
 if v24 then some 7 else some 0
noncomputable def z9l (l1:(List z0g)) (i2:Int):Option (Int):=
 (at? l1 i2).bind fun (x3:z0g)=>(z7y x3.Id).bind fun (r5:(Bool))=>if !r5 then some 5 else ((sub? l1 0 i2).bind fun (l8:(List z0g))=>(z1x l8 (fun (a0:z0g)=>z8e a0 x3)).bind fun (r10:(Bool))=>if r10 then some 6 else ((z9m x3.Secret).bind fun (r13:(Int))=>if decide (r13≠0) then some r13 else ((y31 x3.From 0 x3.To).bind fun (r16:(Bool))=>if ((r16 || (decide (x3.Until < x3.To))) || (decide (345686400000 < x3.Until))) then some 1 else (if decide (0 < i2) then ((at? l1 (wr (i2 - 1))).bind fun (x21:z0g)=>z5e (decide (x3.From < x21.From))) else (z5e false)))))
noncomputable def z9z (l1:(List z0g)) (k3:Nat) (x6:z0g):Option (Unit ⊕ (Int)):=
 (z9l l1 (k3:Int)).bind fun (r9:(Int))=>if decide (r9≠0) then (some (.inr r9)) else (some (.inl ()))
noncomputable def y1m:Option (Int):=
 some 0
noncomputable def z7j (l1:(List z0g)):Option (Int):=
 if decide (50 < (l1.length:Int)) then some 2 else (if l1.length≤1000000000 then forL (fun (k:Nat) (x:z0g) (s:Unit)=>z9z l1 k x) (fun (s:Unit)=>y1m) 0 l1 () else none)
noncomputable def z7e (v16:Bool):Option (Unit ⊕ (Int)):=
 if v16 then (some (.inr 7)) else (some (.inl ()))
noncomputable def y1a (l1:(List Bs)) (k2:Nat) (x5:Bs):Option (Unit ⊕ (Int)):=
 (z7y x5).bind fun (r8:(Bool))=>if !r8 then (some (.inr 5)) else (if decide (0 < (k2:Int)) then ((at? l1 ((k2:Int) - 1)).bind fun (x13:Bs)=>z7e (Op.bytesLess x5 x13 || x5 == x13)) else (z7e false))
noncomputable def y2w:Option (Int):=
 some 0
noncomputable def y0j (l1:(List Bs)):Option (Int):=
 if l1.length≤1000000000 then forL (fun (k:Nat) (x:Bs) (s:Unit)=>y1a l1 k x) (fun (s:Unit)=>y2w) 0 l1 () else none
noncomputable def y2c (r2:((List Bs))) (k4:Nat) (x7:Bs):Option (Unit ⊕ (Bool)):=
 (z7y x7).bind fun (r10:(Bool))=>if ((!r10) && (!((decide (x7=[42])) && (decide ((k4:Int)=(wr ((r2.length:Int) - 1))))))) then (some (.inr false)) else (some (.inl ()))
noncomputable def y3q (r2:((List Bs))):Option (Bool):=
 some (decide ((r2.length:Int)≤10))
noncomputable def y1p (s1:Bs):Option (Bool):=
 (z2s s1 [58]).bind fun (r2:((List Bs)))=>if r2.length≤1000000000 then forL (fun (k:Nat) (x:Bs) (s:Unit)=>y2c r2 k x) (fun (s:Unit)=>y3q r2) 0 r2 () else none
noncomputable def y0d (k3:Nat) (x6:Bs):Option (Unit ⊕ (Int)):=
 (y1p x6).bind fun (r9:(Bool))=>if !r9 then (some (.inr 3)) else (some (.inl ()))
noncomputable def y11:Option (Int):=
 some 0
noncomputable def z9n (l1:(List Bs)):Option (Int):=
 if decide (50 < (l1.length:Int)) then some 2 else (if l1.length≤1000000000 then forL (fun (k:Nat) (x:Bs) (s:Unit)=>y0d k x) (fun (s:Unit)=>y11) 0 l1 () else none)
noncomputable def y3k (l1:(List Bs)):Option ((List Bs)):=
 (z97 l1).bind fun (r2:((List Bs)))=>(z5f r2).bind fun (r4:(List Bs))=>(z4o r4).bind fun (r6:((List Bs)))=>some r6
noncomputable def z2n (j6:Int) (i17:Int) (s18:(List Bs)):Option ((Int×Int×(List Bs)) ⊕ ((List Bs))):=
 some (.inl (i17,wr (j6+1),s18))
noncomputable def z3u (i19:Int) (s20:(List Bs)):Option ((List Bs)):=
 if (0:Int)≤i19∧i19 < (s20.length:Int) then (if (0:Int)≤i19∧i19≤((s20.take i19.toNat++List.replicate (s20.length - i19.toNat) []).length:Int) then (some ((s20.take i19.toNat++List.replicate (s20.length - i19.toNat) []).take i19.toNat)) else none) else none
noncomputable def z56 (p1:Bs→Option (Bool)) (i5:Int) (j6:Int) (l7:(List Bs)):Option ((Int×Int×(List Bs)) ⊕ ((List Bs))):=
 if decide (j6 < (l7.length:Int)) then ((at? l7 j6).bind fun (x10:Bs)=>(p1 x10).bind fun (r12:Bool)=>if !r12 then ((at? l7 i5).bind fun (x15:Bs)=>z2n j6 (wr (i5+1)) (l7.set i5.toNat x10)) else (z2n j6 i5 l7)) else (Option.map .inr (z3u i5 l7))
noncomputable def z4d (s1:(List Bs)) (p1:Bs→Option (Bool)):Option ((List Bs)):=
 (z4n s1 p1).bind fun (r2:(Int))=>if decide (r2=(-1)) then some s1 else (iter (fun (s:Int×Int×(List Bs))=>z56 p1 s.1 s.2.1 s.2.2) (r2,wr (r2+1),s1))
noncomputable def y0g (v11:Bool):Option (Bool):=
 some v11
noncomputable def y16 (a1:Bs) (b2:Bs):Option (Bool):=
 if decide (a1=b2) then some true else ((z6s a1 [42]).bind fun (r4:(Bs×Bool))=>if r4.2 then ((z9o b2 r4.1).bind fun (r8:(Bool))=>y0g r8) else (y0g false))
noncomputable def z8j (v8:Bool):Option (Bool):=
 some v8
noncomputable def y0i (h1:Bs) (c2:Bs):Option (Bool):=
 if decide (h1≠c2) then ((y16 h1 c2).bind fun (r5:(Bool))=>z8j r5) else (z8j false)
noncomputable def y1o (s1:Bs) (c2:(List Bs)):Option (Bool):=
 (z1r c2 (fun (a0:Bs)=>y0i a0 s1)).bind fun (r3:(Bool))=>some r3
noncomputable def y2s (l1:(List Bs)):Option ((List Bs)):=
 (y3k l1).bind fun (r2:((List Bs)))=>(z97 r2).bind fun (r4:((List Bs)))=>(z4d r4 (fun (a0:Bs)=>y1o a0 r2)).bind fun (r6:((List Bs)))=>some r6
noncomputable def z5s (s2:(List Bs)) (k4:Nat) (x7:Bs):Option (Unit ⊕ (Bool)):=
 (s2[k4]?).bind fun (x10:Bs)=>if decide (x7≠x10) then (some (.inr false)) else (some (.inl ()))
noncomputable def z7q:Option (Bool):=
 some true
noncomputable def z1y (s1:(List Bs)) (s2:(List Bs)):Option (Bool):=
 if decide ((s1.length:Int)≠(s2.length:Int)) then some false else (if s1.length≤1000000000 then forL (fun (k:Nat) (x:Bs) (s:Unit)=>z5s s2 k x) (fun (s:Unit)=>z7q) 0 s1 () else none)
noncomputable def z3a (v1:z0e) (v22:Bool):Option (Int):=
 if v22 then some 5 else (if decide (50 < (v1.Audience.length:Int)) then some 2 else ((y0j v1.Audience).bind fun (r25:(Int))=>if decide (r25≠0) then some r25 else ((z9n v1.Scopes).bind fun (r28:(Int))=>if decide (r28≠0) then some r28 else ((y2s v1.Scopes).bind fun (r31:((List Bs)))=>(z1y v1.Scopes r31).bind fun (r33:(Bool))=>if !r33 then some 7 else (if (((decide (v1.From < 0)) || (decide (v1.To≤v1.From))) || (decide (345686400000 < v1.To))) then some 1 else some 0)))))
noncomputable def z6q (v1:z0e):Option (Int):=
 (z7y v1.Id).bind fun (r2:(Bool))=>if !r2 then (z3a v1 true) else ((z7y v1.Subject).bind fun (r6:(Bool))=>if !r6 then (z3a v1 true) else ((z7y v1.Issuer).bind fun (r10:(Bool))=>if !r10 then (z3a v1 true) else (if decide (v1.Parent≠[]) then ((z7y v1.Parent).bind fun (r16:(Bool))=>z3a v1 (!r16)) else (z3a v1 false))))
noncomputable def z4m (v1:z0e) (v29:Bs):Option (Bs×Int):=
 (z7a v1.From).bind fun (r30:(Bs))=>if [116,105,109,101,32].length+r30.length≤1000000000 then (if ([116,105,109,101,32]++r30).length+[32].length≤1000000000 then ((z7a v1.To).bind fun (r34:(Bs))=>if (([116,105,109,101,32]++r30)++[32]).length+r34.length≤1000000000 then (if ((([116,105,109,101,32]++r30)++[32])++r34).length+[10].length≤1000000000 then (if v29.length+(((([116,105,109,101,32]++r30)++[32])++r34)++[10]).length≤1000000000 then (if decide (4000 < ((v29++(((([116,105,109,101,32]++r30)++[32])++r34)++[10])).length:Int)) then (some ([],2)) else (some ((v29++(((([116,105,109,101,32]++r30)++[32])++r34)++[10])),0))) else none) else none) else none) else none) else none
noncomputable def z6p (v1:z0e) (v22:Bs):Option (Bs×Int):=
 if decide (0 < (v1.Scopes.length:Int)) then ((z3n v1.Scopes [32]).bind fun (r24:(Bs))=>if [109,97,121,32].length+r24.length≤1000000000 then (if ([109,97,121,32]++r24).length+[10].length≤1000000000 then (if v22.length+(([109,97,121,32]++r24)++[10]).length≤1000000000 then (z4m v1 (v22++(([109,97,121,32]++r24)++[10]))) else none) else none) else none) else (z4m v1 v22)
noncomputable def z5u (v1:z0e) (v15:Bs):Option (Bs×Int):=
 if decide (0 < (v1.Audience.length:Int)) then ((z3n v1.Audience [32]).bind fun (r17:(Bs))=>if [102,111,114,32].length+r17.length≤1000000000 then (if ([102,111,114,32]++r17).length+[10].length≤1000000000 then (if v15.length+(([102,111,114,32]++r17)++[10]).length≤1000000000 then (z6p v1 (v15++(([102,111,114,32]++r17)++[10]))) else none) else none) else none) else (z6p v1 v15)
noncomputable def z57 (v1:z0e):Option (Bs×Int):=
 (z6q v1).bind fun (r2:(Int))=>if decide (r2≠0) then (some ([],r2)) else (if [105,100,32].length+v1.Id.length≤1000000000 then (if ([105,100,32]++v1.Id).length+[10,115,117,98,106,101,99,116,32].length≤1000000000 then (if (([105,100,32]++v1.Id)++[10,115,117,98,106,101,99,116,32]).length+v1.Subject.length≤1000000000 then (if ((([105,100,32]++v1.Id)++[10,115,117,98,106,101,99,116,32])++v1.Subject).length+[10,105,115,115,117,101,114,32].length≤1000000000 then (if (((([105,100,32]++v1.Id)++[10,115,117,98,106,101,99,116,32])++v1.Subject)++[10,105,115,115,117,101,114,32]).length+v1.Issuer.length≤1000000000 then (if ((((([105,100,32]++v1.Id)++[10,115,117,98,106,101,99,116,32])++v1.Subject)++[10,105,115,115,117,101,114,32])++v1.Issuer).length+[10].length≤1000000000 then (if decide (v1.Parent≠[]) then (if [112,97,114,101,110,116,32].length+v1.Parent.length≤1000000000 then (if ([112,97,114,101,110,116,32]++v1.Parent).length+[10].length≤1000000000 then (if (((((([105,100,32]++v1.Id)++[10,115,117,98,106,101,99,116,32])++v1.Subject)++[10,105,115,115,117,101,114,32])++v1.Issuer)++[10]).length+(([112,97,114,101,110,116,32]++v1.Parent)++[10]).length≤1000000000 then (z5u v1 ((((((([105,100,32]++v1.Id)++[10,115,117,98,106,101,99,116,32])++v1.Subject)++[10,105,115,115,117,101,114,32])++v1.Issuer)++[10])++(([112,97,114,101,110,116,32]++v1.Parent)++[10]))) else none) else none) else none) else (z5u v1 (((((([105,100,32]++v1.Id)++[10,115,117,98,106,101,99,116,32])++v1.Subject)++[10,105,115,115,117,101,114,32])++v1.Issuer)++[10]))) else none) else none) else none) else none) else none) else none)
noncomputable def y18 (n1:Int):Option (Bool):=
 some ((decide (0≤n1)) && (decide (n1 < 345686400000)))
noncomputable def z7x (v1:Int):Option (Int):=
 (y18 v1).bind fun (r2:(Bool))=>if !r2 then some 1 else some 0
noncomputable def y26 (v2:Int) (k5:Nat) (x6:z0g):Option (Unit ⊕ (z0g×Bool)):=
 if ((decide (x6.From≤v2)) && (decide (v2 < x6.To))) then (some (.inr (x6,true))) else (some (.inl ()))
noncomputable def y27:Option (z0g×Bool):=
 some ((z0g.mk [] [] 0 0 0),false)
noncomputable def y2d (l1:(List z0g)) (v2:Int):Option (z0g×Bool):=
 if l1.length≤1000000000 then back (fun (k:Nat) (x:z0g) (s:Unit)=>y26 v2 k x) (fun (s:Unit)=>y27) l1 l1.length () else none
noncomputable def z9b (x6:Int) (k11:Nat) (l10:(List Int)):Option ((List Int) ⊕ ((Bs×(List Int)) ⊕ (Bs))):=
 if (0:Int)≤(wr (18 - (wr (6 * (k11:Int))))) then ((at? [65,66,67,68,69,70,71,72,73,74,75,76,77,78,79,80,81,82,83,84,85,86,87,88,89,90,97,98,99,100,101,102,103,104,105,106,107,108,109,110,111,112,113,114,115,116,117,118,119,120,121,122,48,49,50,51,52,53,54,55,56,57,45,95] (and_ .i64 (shr_ .i64 x6 (wr (18 - (wr (6 * (k11:Int)))))) 63)).bind fun (x18:UInt8)=>if l10.length+1≤1000000000 then (some (.inl (l10++[(x18.toNat:Int)]))) else none) else none
noncomputable def z9d (s2:Bs) (l10:(List Int)):Option ((Bs×(List Int)) ⊕ (Bs)):=
 (sub? s2 (min 3 (s2.length:Int)) (s2.length:Int)).bind fun (l14:Bs)=>some (.inl (l14,l10))
noncomputable def z9c (x25:Int):Option (Int ⊕ ((Bs×(List Int)) ⊕ (Bs))):=
 some (.inl x25)
noncomputable def z6e (s2:Bs) (k7:Nat) (x6:Int):Option (Int ⊕ ((Bs×(List Int)) ⊕ (Bs))):=
 if decide ((k7:Int) < (min 3 (s2.length:Int))) then ((s2[k7]?).bind fun (x23:UInt8)=>z9c (or_ .i64 (shl_ .i64 x6 8) (IntKind.wrap .i64 (x23.toNat:Int)))) else (z9c (shl_ .i64 x6 8))
noncomputable def y1k (s2:Bs) (l3:(List Int)) (x6:Int):Option ((Bs×(List Int)) ⊕ (Bs)):=
 if (wr ((min 3 (s2.length:Int))+1))≤1000000000 then rng (fun (k:Nat) (s:(List Int))=>z9b x6 k s) (fun (s:(List Int))=>z9d s2 s) ((wr ((min 3 (s2.length:Int))+1)).toNat) 0 l3 else none
noncomputable def y1j (out26:(List Int)):Option (Bs):=
 some (strN out26)
noncomputable def z16 (s2:Bs) (l3:(List Int)):Option ((Bs×(List Int)) ⊕ (Bs)):=
 if decide (0 < (s2.length:Int)) then (if 3≤1000000000 then rng (fun (k:Nat) (s:Int)=>z6e s2 k s) (fun (s:Int)=>y1k s2 l3 s) 3 0 0 else none) else (Option.map .inr (y1j l3))
noncomputable def z69 (s1:Bs):Option (Bs):=
 iter (fun (s:Bs×(List Int))=>z16 s.1 s.2) (s1,[])
noncomputable def z8l (i1:Int):Option (Bs):=
 if decide (i1 < 10) then ((sub? [48,49,50,51,52,53,54,55,56,57,97,98,99,100,101,102,103,104,105,106,107,108,109,110,111,112,113,114,115,116,117,118,119,120,121,122] i1 (wr (i1+1))).bind fun (l3:Bs)=>some l3) else ((sub? [48,48,48,49,48,50,48,51,48,52,48,53,48,54,48,55,48,56,48,57,49,48,49,49,49,50,49,51,49,52,49,53,49,54,49,55,49,56,49,57,50,48,50,49,50,50,50,51,50,52,50,53,50,54,50,55,50,56,50,57,51,48,51,49,51,50,51,51,51,52,51,53,51,54,51,55,51,56,51,57,52,48,52,49,52,50,52,51,52,52,52,53,52,54,52,55,52,56,52,57,53,48,53,49,53,50,53,51,53,52,53,53,53,54,53,55,53,56,53,57,54,48,54,49,54,50,54,51,54,52,54,53,54,54,54,55,54,56,54,57,55,48,55,49,55,50,55,51,55,52,55,53,55,54,55,55,55,56,55,57,56,48,56,49,56,50,56,51,56,52,56,53,56,54,56,55,56,56,56,57,57,48,57,49,57,50,57,51,57,52,57,53,57,54,57,55,57,56,57,57] (wr (i1 * 2)) (wr ((wr (i1 * 2))+2))).bind fun (l5:Bs)=>some l5)
noncomputable def z30 (x1:Int):Option (Bool):=
 some (decide ((and_ .i64 x1 (wr (x1 - 1)))=0))
noncomputable def z2v (v5:Bool) (v52:Int) (l53:(List Int)):Option ((List Int)×Bs):=
 if v5 then none else (if l53.length=65 then (if (0:Int)≤v52∧v52≤(65:Int) then (some ([],(strN (l53.drop v52.toNat)))) else none) else none)
noncomputable def z2x (v4:Bool) (v5:Bool) (v47:Int) (l48:(List Int)):Option ((List Int)×Bs):=
 if v4 then (if (0:Int)≤(wr (v47 - 1))∧(wr (v47 - 1)) < (65:Int) then (if (wr (v47 - 1)).toNat < l48.length then (z2v v5 (wr (v47 - 1)) (l48.set (wr (v47 - 1)).toNat 45)) else none) else none) else (z2v v5 v47 l48)
noncomputable def z2w (v4:Bool) (v5:Bool) (v23:Int) (v24:Int) (l25:(List Int)):Option ((List Int)×Bs):=
 (at? [48,49,50,51,52,53,54,55,56,57,97,98,99,100,101,102,103,104,105,106,107,108,109,110,111,112,113,114,115,116,117,118,119,120,121,122] v23).bind fun (x26:UInt8)=>if (0:Int)≤(wr (v24 - 1))∧(wr (v24 - 1)) < (65:Int) then (if (wr (v24 - 1)).toNat < l25.length then (z2x v4 v5 (wr (v24 - 1)) (l25.set (wr (v24 - 1)).toNat (x26.toNat:Int))) else none) else none
noncomputable def z2h (v3:Int) (v4:Bool) (v5:Bool) (r11:(Int)) (v13:Int) (v14:Int) (l15:(List Int)):Option ((Int×Int×(List Int)) ⊕ ((List Int)×Bs)):=
 if decide ((IntKind.wrap .u64 v3)≤v13) then ((at? [48,49,50,51,52,53,54,55,56,57,97,98,99,100,101,102,103,104,105,106,107,108,109,110,111,112,113,114,115,116,117,118,119,120,121,122] (and_ .u64 v13 (IntKind.wrap .u64 ((IntKind.wrap .u64 v3) - 1)))).bind fun (x18:UInt8)=>if (0:Int)≤(wr (v14 - 1))∧(wr (v14 - 1)) < (65:Int) then (if (wr (v14 - 1)).toNat < l15.length then (if (0:Int)≤(IntKind.wrap .u64 r11) then (some (.inl ((shr_ .u64 v13 (IntKind.wrap .u64 r11)),wr (v14 - 1),(l15.set (wr (v14 - 1)).toNat (x18.toNat:Int))))) else none) else none) else none) else (Option.map .inr (z2w v4 v5 v13 v14 l15))
noncomputable def z6a (v4:Bool) (v5:Bool) (v40:Int) (v41:Int) (l42:(List Int)):Option ((List Int)×Bs):=
 (at? [48,49,50,51,52,53,54,55,56,57,97,98,99,100,101,102,103,104,105,106,107,108,109,110,111,112,113,114,115,116,117,118,119,120,121,122] v40).bind fun (x43:UInt8)=>if (0:Int)≤(wr (v41 - 1))∧(wr (v41 - 1)) < (65:Int) then (if (wr (v41 - 1)).toNat < l42.length then (z2x v4 v5 (wr (v41 - 1)) (l42.set (wr (v41 - 1)).toNat (x43.toNat:Int))) else none) else none
noncomputable def z8h (v3:Int) (v4:Bool) (v5:Bool) (v30:Int) (v31:Int) (l32:(List Int)):Option ((Int×Int×(List Int)) ⊕ ((List Int)×Bs)):=
 if decide ((IntKind.wrap .u64 v3)≤v30) then (if (IntKind.wrap .u64 v3)≠0 then ((at? [48,49,50,51,52,53,54,55,56,57,97,98,99,100,101,102,103,104,105,106,107,108,109,110,111,112,113,114,115,116,117,118,119,120,121,122] (IntKind.wrap .u64 (v30 - (IntKind.wrap .u64 ((IntKind.wrap .u64 (Int.tdiv v30 (IntKind.wrap .u64 v3))) * (IntKind.wrap .u64 v3)))))).bind fun (x36:UInt8)=>if (0:Int)≤(wr (v31 - 1))∧(wr (v31 - 1)) < (65:Int) then (if (wr (v31 - 1)).toNat < l32.length then (some (.inl ((IntKind.wrap .u64 (Int.tdiv v30 (IntKind.wrap .u64 v3))),wr (v31 - 1),(l32.set (wr (v31 - 1)).toNat (x36.toNat:Int))))) else none) else none) else none) else (Option.map .inr (z6a v4 v5 v30 v31 l32))
noncomputable def z2y (v2:Int) (v3:Int) (v4:Bool) (v5:Bool):Option ((List Int)×Bs):=
 (z30 v3).bind fun (r8:(Bool))=>if r8 then ((z7m (IntKind.wrap .u64 v3)).bind fun (r11:(Int))=>iter (fun (s:Int×Int×(List Int))=>z2h v3 v4 v5 r11 s.1 s.2.1 s.2.2) (v2,65,(List.replicate 65 0))) else (iter (fun (s:Int×Int×(List Int))=>z8h v3 v4 v5 s.1 s.2.1 s.2.2) (v2,65,(List.replicate 65 0)))
noncomputable def z3h (v1:(List Int)) (v2:Int) (v3:Int) (v4:Bool) (v5:Bool):Option ((List Int)×Bs):=
 if (((decide (v3 < 2)) || (decide (v3=10))) || (decide (36 < v3))) then none else (if v4 then none else (z2y v2 v3 v4 v5))
noncomputable def z6l (i1:Int) (base2:Int):Option (Bs):=
 if decide (base2=10) then (if decide (i1 < 100) then ((z8l (IntKind.wrap .i64 i1)).bind fun (r5:(Bs))=>some r5) else none) else ((z3h ([]:(List Int)) i1 base2 false false).bind fun (r7:((List Int)×Bs))=>some r7.2)
noncomputable def z7l (i1:Int) (base2:Int):Option (Bs):=
 (z6l i1 base2).bind fun (r3:(Bs))=>some r3
noncomputable def y4s (k9:Nat) (h8:Int):Option (Int ⊕ (Bs)):=
 some (.inl (IntKind.wrap .u64 ((xor_ .u64 h8 (shr_ .u64 h8 29)) * 13787848793156543929)))
noncomputable def y4t (h8:Int):Option (Bs):=
 (z7l h8 16).bind fun (r12:(Bs))=>(z41 [48] (wr (16 - (r12.length:Int)))).bind fun (r14:(Bs))=>if r14.length+r12.length≤1000000000 then (some (r14++r12)) else none
noncomputable def y4r (k21:Nat) (x24:UInt8) (h20:Int):Option (Int ⊕ (Int ⊕ (Bs))):=
 some (.inl (IntKind.wrap .u64 ((xor_ .u64 h20 (IntKind.wrap .u64 (x24.toNat:Int))) * 1099511628211)))
noncomputable def y59 (h20:Int):Option (Int ⊕ (Bs)):=
 some (.inl h20)
noncomputable def y1i (k4:Nat) (x7:Bs) (h3:Int):Option (Int ⊕ (Bs)):=
 if x7.length≤1000000000 then forL (fun (k:Nat) (x:UInt8) (s:Int)=>y4r k x s) (fun (s:Int)=>y59 s) 0 x7 h3 else none
noncomputable def y0r (h3:Int):Option (Bs):=
 if 3≤1000000000 then rng (fun (k:Nat) (s:Int)=>y4s k s) (fun (s:Int)=>y4t s) 3 0 h3 else none
noncomputable def y1n (secret1:Bs) (text2:Bs):Option (Bs):=
 if ([secret1,[0],text2,[0],secret1]).length≤1000000000 then forL (fun (k:Nat) (x:Bs) (s:Int)=>y1i k x s) (fun (s:Int)=>y0r s) 0 ([secret1,[0],text2,[0],secret1]) 14695981039346656037 else none
noncomputable def y2t (l1:(List z0g)) (c2:z0e) (v3:Int):Option (Bs×Int):=
 (z7j l1).bind fun (r4:(Int))=>if decide (r4≠0) then (some ([],r4)) else ((z57 (z0e.mk c2.Id c2.Subject c2.Issuer c2.Parent c2.Audience c2.Scopes c2.From c2.To)).bind fun (r7:(Bs×Int))=>if decide (r7.2≠0) then (some ([],r7.2)) else ((z7x v3).bind fun (r10:(Int))=>if decide (r10≠0) then (some ([],r10)) else ((y2d l1 v3).bind fun (r13:(z0g×Bool))=>if !r13.2 then (some ([],8)) else (if decide (r13.1.Until < c2.To) then (some ([],1)) else (if r13.1.Id.length+[46].length≤1000000000 then ((z69 r7.1).bind fun (r18:(Bs))=>if (r13.1.Id++[46]).length+r18.length≤1000000000 then (if ((r13.1.Id++[46])++r18).length+[46].length≤1000000000 then ((y1n r13.1.Secret ((r13.1.Id++[46])++r18)).bind fun (r22:(Bs))=>if (((r13.1.Id++[46])++r18)++[46]).length+r22.length≤1000000000 then (some (((((r13.1.Id++[46])++r18)++[46])++r22),0)) else none) else none) else none) else none)))))
noncomputable def z94 (n1:Int) (low2:Int) (high3:Int):Option (Bool):=
 some ((decide (low2≤n1)) && (decide (n1≤high3)))
noncomputable def y2f (some2:Bs) (k3:Nat) (x6:UInt8):Option (Unit ⊕ (Bool)):=
 (z6r some2 (x6.toNat:Int)).bind fun (r9:(Int))=>if decide (r9 < 0) then (some (.inr false)) else (some (.inl ()))
noncomputable def y3v:Option (Bool):=
 some true
noncomputable def z8f (s1:Bs) (some2:Bs):Option (Bool):=
 if s1.length≤1000000000 then forL (fun (k:Nat) (x:UInt8) (s:Unit)=>y2f some2 k x) (fun (s:Unit)=>y3v) 0 s1 () else none
noncomputable def z9r (v16:Bool):Option (Bool):=
 some v16
noncomputable def z5b (s1:Bs):Option (Bool):=
 (z94 (s1.length:Int) 1 40).bind fun (r2:(Bool))=>if r2 then ((sub? s1 0 1).bind fun (l6:Bs)=>(z8f l6 [97,98,99,100,101,102,103,104,105,106,107,108,109,110,111,112,113,114,115,116,117,118,119,120,121,122]).bind fun (r8:(Bool))=>if r8 then ((z8f s1 [97,98,99,100,101,102,103,104,105,106,107,108,109,110,111,112,113,114,115,116,117,118,119,120,121,122,48,49,50,51,52,53,54,55,56,57,45,95]).bind fun (r12:(Bool))=>z9r r12) else (z9r false)) else (z9r false)
noncomputable def z6i (o1:z0g) (c2:z0g):Option (Bool):=
 some (decide (o1.Id=c2.Id))
noncomputable def z73 (v12:Bool):Option (Unit ⊕ (Bool)):=
 if v12 then (some (.inr false)) else (some (.inl ()))
noncomputable def y0w (low2:Int) (k3:Nat) (x6:UInt8):Option (Unit ⊕ (Bool)):=
 if decide ((x6.toNat:Int) < low2) then (z73 true) else (z73 (decide (126 < (x6.toNat:Int))))
noncomputable def y2i:Option (Bool):=
 some true
noncomputable def z93 (s1:Bs) (low2:Int):Option (Bool):=
 if s1.length≤1000000000 then forL (fun (k:Nat) (x:UInt8) (s:Unit)=>y0w low2 k x) (fun (s:Unit)=>y2i) 0 s1 () else none
noncomputable def z4t (s1:Bs) (v7:Bool):Option (Int):=
 if v7 then some 3 else (if decide (100 < (s1.length:Int)) then some 2 else some 0)
noncomputable def z7u (s1:Bs):Option (Int):=
 if decide (s1=[]) then (z4t s1 true) else ((z93 s1 33).bind fun (r4:(Bool))=>z4t s1 (!r4))
noncomputable def z2z (v28:Bool):Option (Unit ⊕ (Int)):=
 if v28 then (some (.inr 7)) else (some (.inl ()))
noncomputable def z63 (v1:(List z0g)) (k3:Nat) (x6:z0g):Option (Unit ⊕ (Int)):=
 (z5b x6.Id).bind fun (r9:(Bool))=>if !r9 then (some (.inr 5)) else ((sub? v1 0 (k3:Int)).bind fun (l12:(List z0g))=>(z1x l12 (fun (a0:z0g)=>z6i a0 x6)).bind fun (r14:(Bool))=>if r14 then (some (.inr 6)) else ((z7u x6.Secret).bind fun (r17:(Int))=>if decide (r17≠0) then (some (.inr r17)) else ((z94 x6.From 0 x6.To).bind fun (r20:(Bool))=>if (((!r20) || (decide (x6.Until < x6.To))) || (decide (345686400000 < x6.Until))) then (some (.inr 1)) else (if decide (0 < (k3:Int)) then ((at? v1 ((k3:Int) - 1)).bind fun (x25:z0g)=>z2z (decide (x6.From < x25.From))) else (z2z false)))))
noncomputable def y0q:Option (Int):=
 some 0
noncomputable def z7c (v1:(List z0g)):Option (Int):=
 if decide (50 < (v1.length:Int)) then some 2 else (if v1.length≤1000000000 then forL (fun (k:Nat) (x:z0g) (s:Unit)=>z63 v1 k x) (fun (s:Unit)=>y0q) 0 v1 () else none)
noncomputable def y1z (r2:((List Bs))) (k4:Nat) (x7:Bs):Option (Unit ⊕ (Bool)):=
 (z5b x7).bind fun (r10:(Bool))=>if ((!r10) && ((decide (x7≠[42])) || (decide ((k4:Int) < (wr ((r2.length:Int) - 1)))))) then (some (.inr false)) else (some (.inl ()))
noncomputable def y3e (r2:((List Bs))):Option (Bool):=
 some (decide ((r2.length:Int)≤10))
noncomputable def y01 (s1:Bs):Option (Bool):=
 (z2s s1 [58]).bind fun (r2:((List Bs)))=>if r2.length≤1000000000 then forL (fun (k:Nat) (x:Bs) (s:Unit)=>y1z r2 k x) (fun (s:Unit)=>y3e r2) 0 r2 () else none
noncomputable def z83 (k3:Nat) (x6:Bs):Option (Unit ⊕ (Int)):=
 (y01 x6).bind fun (r9:(Bool))=>if !r9 then (some (.inr 3)) else (some (.inl ()))
noncomputable def y0x:Option (Int):=
 some 0
noncomputable def z7v (l1:(List Bs)):Option (Int):=
 if decide (50 < (l1.length:Int)) then some 2 else (if l1.length≤1000000000 then forL (fun (k:Nat) (x:Bs) (s:Unit)=>z83 k x) (fun (s:Unit)=>y0x) 0 l1 () else none)
noncomputable def z4y (v48:Bool):Option (Unit ⊕ (Int)):=
 if v48 then (some (.inr 7)) else (some (.inl ()))
noncomputable def z84 (v1:z0e) (k25:Nat) (x28:Bs):Option (Unit ⊕ (Int)):=
 (z5b x28).bind fun (r40:(Bool))=>if !r40 then (some (.inr 5)) else (if decide (0 < (k25:Int)) then ((at? v1.Audience ((k25:Int) - 1)).bind fun (x45:Bs)=>z4y (Op.bytesLess x28 x45 || x28 == x45)) else (z4y false))
noncomputable def z7h (v1:z0e):Option (Int):=
 (z7v v1.Scopes).bind fun (r29:(Int))=>if decide (r29≠0) then some r29 else ((z8m v1.Scopes).bind fun (r32:((List Bs)))=>(z1y r32 v1.Scopes).bind fun (r34:(Bool))=>if !r34 then some 7 else (if (((decide (v1.From < 0)) || (decide (v1.To≤v1.From))) || (decide (345686400000 < v1.To))) then some 1 else some 0))
noncomputable def z2f (v1:z0e) (v22:Bool):Option (Int):=
 if v22 then some 5 else (if decide (50 < (v1.Audience.length:Int)) then some 2 else (if v1.Audience.length≤1000000000 then forL (fun (k:Nat) (x:Bs) (s:Unit)=>z84 v1 k x) (fun (s:Unit)=>z7h v1) 0 v1.Audience () else none))
noncomputable def z5h (v1:z0e):Option (Int):=
 (z5b v1.Id).bind fun (r2:(Bool))=>if !r2 then (z2f v1 true) else ((z5b v1.Subject).bind fun (r6:(Bool))=>if !r6 then (z2f v1 true) else ((z5b v1.Issuer).bind fun (r10:(Bool))=>if !r10 then (z2f v1 true) else (if decide (v1.Parent≠[]) then ((z5b v1.Parent).bind fun (r16:(Bool))=>z2f v1 (!r16)) else (z2f v1 false))))
noncomputable def z4v (c1:z0e) (l20:(List Bs)):Option (Bs):=
 (z7a c1.From).bind fun (r21:(Bs))=>if [116,105,109,101,32].length+r21.length≤1000000000 then (if ([116,105,109,101,32]++r21).length+[32].length≤1000000000 then ((z7a c1.To).bind fun (r25:(Bs))=>if (([116,105,109,101,32]++r21)++[32]).length+r25.length≤1000000000 then (if l20.length+1≤1000000000 then ((z3n (l20++([((([116,105,109,101,32]++r21)++[32])++r25)])) [10]).bind fun (r29:(Bs))=>if r29.length+[10].length≤1000000000 then (some (r29++[10])) else none) else none) else none) else none) else none
noncomputable def z4w (c1:z0e) (l14:(List Bs)):Option (Bs):=
 if decide (0 < (c1.Scopes.length:Int)) then ((z3n c1.Scopes [32]).bind fun (r16:(Bs))=>if [109,97,121,32].length+r16.length≤1000000000 then (if l14.length+1≤1000000000 then (z4v c1 (l14++([([109,97,121,32]++r16)]))) else none) else none) else (z4v c1 l14)
noncomputable def z4x (c1:z0e) (l8:(List Bs)):Option (Bs):=
 if decide (0 < (c1.Audience.length:Int)) then ((z3n c1.Audience [32]).bind fun (r10:(Bs))=>if [102,111,114,32].length+r10.length≤1000000000 then (if l8.length+1≤1000000000 then (z4w c1 (l8++([([102,111,114,32]++r10)]))) else none) else none) else (z4w c1 l8)
noncomputable def z5g (c1:z0e):Option (Bs):=
 if [105,100,32].length+c1.Id.length≤1000000000 then (if [115,117,98,106,101,99,116,32].length+c1.Subject.length≤1000000000 then (if [105,115,115,117,101,114,32].length+c1.Issuer.length≤1000000000 then (if decide (c1.Parent≠[]) then (if [112,97,114,101,110,116,32].length+c1.Parent.length≤1000000000 then (if ([([105,100,32]++c1.Id),([115,117,98,106,101,99,116,32]++c1.Subject),([105,115,115,117,101,114,32]++c1.Issuer)]:(List Bs)).length+1≤1000000000 then (z4x c1 (([([105,100,32]++c1.Id),([115,117,98,106,101,99,116,32]++c1.Subject),([105,115,115,117,101,114,32]++c1.Issuer)]:(List Bs))++([([112,97,114,101,110,116,32]++c1.Parent)]))) else none) else none) else (z4x c1 ([([105,100,32]++c1.Id),([115,117,98,106,101,99,116,32]++c1.Subject),([105,115,115,117,101,114,32]++c1.Issuer)]:(List Bs)))) else none) else none) else none
noncomputable def z5p (c1:z0e):Option (Bs×Int):=
 (z5h c1).bind fun (r2:(Int))=>if decide (r2≠0) then (some ([],r2)) else ((z5g c1).bind fun (r5:(Bs))=>if decide (4000 < (r5.length:Int)) then (some ([],2)) else (some (r5,0)))
noncomputable def y0l (v1:Int):Option (Bool):=
 (z94 v1 0 345686399999).bind fun (r2:(Bool))=>some r2
noncomputable def z3v (v2:Int) (k5:Nat) (x6:z0g):Option (Unit ⊕ (z0g×Bool)):=
 if ((decide (x6.From≤v2)) && (decide (v2 < x6.To))) then (some (.inr (x6,true))) else (some (.inl ()))
noncomputable def z8y:Option (z0g×Bool):=
 some ((z0g.mk [] [] 0 0 0),false)
noncomputable def z4q (l1:(List z0g)) (v2:Int):Option (z0g×Bool):=
 if l1.length≤1000000000 then back (fun (k:Nat) (x:z0g) (s:Unit)=>z3v v2 k x) (fun (s:Unit)=>z8y) l1 l1.length () else none
noncomputable def z1d (c1:Int):Option (Int):=
 some (or_ .u8 c1 32)
noncomputable def z2o (v47:Int) (v85:Int):Option ((Int×Int) ⊕ (Bool)):=
 some (.inl (v85,wr (v47+1)))
noncomputable def z1l (v14:Bs) (v46:Int) (v47:Int) (v78:Bool):Option ((Int×Int) ⊕ (Bool)):=
 if v78 then (z2o v47 48) else ((at? v14 v47).bind fun (x80:UInt8)=>if decide ((x80.toNat:Int)=95) then (if decide (v46≠48) then (some (.inr false)) else (z2o v47 95)) else (if decide (v46=95) then (some (.inr false)) else (z2o v47 33)))
noncomputable def z5t (v86:Int):Option (Bool):=
 some (decide (v86≠95))
noncomputable def z7r (v14:Bs) (v45:Bool) (v46:Int) (v47:Int):Option ((Int×Int) ⊕ (Bool)):=
 if decide (v47 < (v14.length:Int)) then ((at? v14 v47).bind fun (x50:UInt8)=>if decide (48≤(x50.toNat:Int)) then (if decide ((x50.toNat:Int)≤57) then (z1l v14 v46 v47 true) else (if v45 then ((z1d (x50.toNat:Int)).bind fun (r58:(Int))=>if decide (97≤r58) then ((z1d (x50.toNat:Int)).bind fun (r62:(Int))=>z1l v14 v46 v47 (decide (r62≤102))) else (z1l v14 v46 v47 false)) else (z1l v14 v46 v47 false))) else (if v45 then ((z1d (x50.toNat:Int)).bind fun (r70:(Int))=>if decide (97≤r70) then ((z1d (x50.toNat:Int)).bind fun (r74:(Int))=>z1l v14 v46 v47 (decide (r74≤102))) else (z1l v14 v46 v47 false)) else (z1l v14 v46 v47 false))) else (Option.map .inr (z5t v46))
noncomputable def z3r (v14:Bs) (v43:Int) (v44:Int) (v45:Bool):Option (Bool):=
 iter (fun (s:Int×Int)=>z7r v14 v45 s.1 s.2) (v43,v44)
noncomputable def z1u (v14:Bs) (v37:Bool):Option (Bool):=
 if v37 then ((v14[1]?).bind fun (x39:UInt8)=>(z1d (x39.toNat:Int)).bind fun (r41:(Int))=>z3r v14 48 2 (decide (r41=120))) else (z3r v14 94 0 false)
noncomputable def z3s (v14:Bs):Option (Bool):=
 if decide (2≤(v14.length:Int)) then ((v14[0]?).bind fun (x17:UInt8)=>if decide ((x17.toNat:Int)=48) then ((v14[1]?).bind fun (x21:UInt8)=>(z1d (x21.toNat:Int)).bind fun (r23:(Int))=>if decide (r23=98) then (z1u v14 true) else ((z1d (x21.toNat:Int)).bind fun (r27:(Int))=>if decide (r27=111) then (z1u v14 true) else ((z1d (x21.toNat:Int)).bind fun (r31:(Int))=>z1u v14 (decide (r31=120))))) else (z1u v14 false)) else (z1u v14 false)
noncomputable def z2p (v1:Bs) (v10:Bool):Option (Bool):=
 if v10 then ((sub? v1 1 (v1.length:Int)).bind fun (l12:Bs)=>z3s l12) else (z3s v1)
noncomputable def z7z (v1:Bs):Option (Bool):=
 if decide (1≤(v1.length:Int)) then ((v1[0]?).bind fun (x4:UInt8)=>if decide ((x4.toNat:Int)=45) then (z2p v1 true) else (z2p v1 (decide ((x4.toNat:Int)=43)))) else (z2p v1 false)
noncomputable def z43 (v87:Bool) (v88:Int):Option ((Bool×Int) ⊕ (Int×Int)):=
 some (.inl (v87,v88))
noncomputable def z4k (v46:Int) (v49:Int) (v53:Int) (v55:Bool) (v56:Int) (v83:Int):Option ((Bool×Int) ⊕ (Int×Int)):=
 if decide ((IntKind.wrap .u8 v46)≤v83) then (some (.inr (0,2))) else (if decide (v53≤v56) then (some (.inr (IntKind.wrap .u64 ((shl_ .u64 1 (IntKind.wrap .u64 v49)) - 1),1))) else (if ((decide ((IntKind.wrap .u64 ((IntKind.wrap .u64 (v56 * (IntKind.wrap .u64 v46)))+(IntKind.wrap .u64 v83))) < (IntKind.wrap .u64 (v56 * (IntKind.wrap .u64 v46))))) || (decide ((IntKind.wrap .u64 ((shl_ .u64 1 (IntKind.wrap .u64 v49)) - 1)) < (IntKind.wrap .u64 ((IntKind.wrap .u64 (v56 * (IntKind.wrap .u64 v46)))+(IntKind.wrap .u64 v83)))))) then (some (.inr (IntKind.wrap .u64 ((shl_ .u64 1 (IntKind.wrap .u64 v49)) - 1),1))) else (z43 v55 (IntKind.wrap .u64 ((IntKind.wrap .u64 (v56 * (IntKind.wrap .u64 v46)))+(IntKind.wrap .u64 v83))))))
noncomputable def z4j (v46:Int) (v49:Int) (v53:Int) (v55:Bool) (v56:Int) (x60:Int) (v79:Bool):Option ((Bool×Int) ⊕ (Int×Int)):=
 if v79 then ((z1d x60).bind fun (r81:(Int))=>z4k v46 v49 v53 v55 v56 (IntKind.wrap .u8 ((IntKind.wrap .u8 (r81 - 97))+10))) else (some (.inr (0,2)))
noncomputable def z8u (v2:Int) (v46:Int) (v49:Int) (v53:Int) (k57:Nat) (x60:Int) (v55:Bool) (v56:Int):Option ((Bool×Int) ⊕ (Int×Int)):=
 if ((decide (x60=95)) && (decide (v2=0))) then (z43 true v56) else (if ((decide (48≤x60)) && (decide (x60≤57))) then (z4k v46 v49 v53 v55 v56 (IntKind.wrap .u8 (x60 - 48))) else ((z1d x60).bind fun (r72:(Int))=>if decide (97≤r72) then ((z1d x60).bind fun (r76:(Int))=>z4j v46 v49 v53 v55 v56 x60 (decide (r76≤122))) else (z4j v46 v49 v53 v55 v56 x60 false)))
noncomputable def z44 (v56:Int) (v66:Bool):Option (Int×Int):=
 if v66 then (some (0,2)) else (some (v56,0))
noncomputable def z8v (v1:Bs) (v55:Bool) (v56:Int):Option (Int×Int):=
 if v55 then ((z7z v1).bind fun (r63:(Bool))=>z44 v56 (!r63)) else (z44 v56 false)
noncomputable def z3i (v1:Bs) (v2:Int) (v45:Bs) (v46:Int) (v49:Int) (v53:Int):Option (Int×Int):=
 if (0:Int)≤(IntKind.wrap .u64 v49) then (if (y0v v45).length≤1000000000 then forL (fun (k:Nat) (x:Int) (s:Bool×Int)=>z8u v2 v46 v49 v53 k x s.1 s.2) (fun (s:Bool×Int)=>z8v v1 s.1 s.2) 0 (y0v v45) (false,0) else none) else none
noncomputable def z45 (v1:Bs) (v2:Int) (v45:Bs) (v46:Int) (v49:Int):Option (Int×Int):=
 if decide (v46=10) then (z3i v1 v2 v45 v46 v49 1844674407370955162) else (if decide (v46=16) then (z3i v1 v2 v45 v46 v49 1152921504606846976) else (if (IntKind.wrap .u64 v46)≠0 then (z3i v1 v2 v45 v46 v49 (IntKind.wrap .u64 ((IntKind.wrap .u64 (Int.tdiv 18446744073709551615 (IntKind.wrap .u64 v46)))+1))) else none))
noncomputable def z1w (v1:Bs) (v2:Int) (v3:Int) (v45:Bs) (v46:Int):Option (Int×Int):=
 if decide (v3=0) then (z45 v1 v2 v45 v46 64) else (if ((decide (v3 < 0)) || (decide (64 < v3))) then (some (0,4)) else (z45 v1 v2 v45 v46 v3))
noncomputable def z47 (v1:Bs) (v2:Int) (v3:Int) (v39:Bool):Option (Int×Int):=
 if v39 then ((sub? v1 2 (v1.length:Int)).bind fun (l41:Bs)=>z1w v1 v2 v3 l41 16) else ((sub? v1 1 (v1.length:Int)).bind fun (l43:Bs)=>z1w v1 v2 v3 l43 8)
noncomputable def z48 (v1:Bs) (v2:Int) (v3:Int) (v28:Bool):Option (Int×Int):=
 if v28 then ((sub? v1 2 (v1.length:Int)).bind fun (l30:Bs)=>z1w v1 v2 v3 l30 8) else (if decide (3≤(v1.length:Int)) then ((v1[1]?).bind fun (x34:UInt8)=>(z1d (x34.toNat:Int)).bind fun (r36:(Int))=>z47 v1 v2 v3 (decide (r36=120))) else (z47 v1 v2 v3 false))
noncomputable def z49 (v1:Bs) (v2:Int) (v3:Int) (v17:Bool):Option (Int×Int):=
 if v17 then ((sub? v1 2 (v1.length:Int)).bind fun (l19:Bs)=>z1w v1 v2 v3 l19 2) else (if decide (3≤(v1.length:Int)) then ((v1[1]?).bind fun (x23:UInt8)=>(z1d (x23.toNat:Int)).bind fun (r25:(Int))=>z48 v1 v2 v3 (decide (r25=111))) else (z48 v1 v2 v3 false))
noncomputable def z8z (v1:Bs) (v2:Int) (v3:Int):Option (Int×Int):=
 if decide (v1=[]) then (some (0,2)) else (if ((decide (2≤v2)) && (decide (v2≤36))) then (z1w v1 v2 v3 v1 v2) else (if decide (v2=0) then ((v1[0]?).bind fun (x7:UInt8)=>if decide ((x7.toNat:Int)=48) then (if decide (3≤(v1.length:Int)) then ((v1[1]?).bind fun (x12:UInt8)=>(z1d (x12.toNat:Int)).bind fun (r14:(Int))=>z49 v1 v2 v3 (decide (r14=98))) else (z49 v1 v2 v3 false)) else (z1w v1 v2 v3 v1 10)) else (some (0,3))))
noncomputable def z5l (v31:Int):Option (Int×Int):=
 some (v31,0)
noncomputable def z5m (v14:Bool) (r15:(Int×Int)) (v24:Int):Option (Int×Int):=
 if (0:Int)≤(IntKind.wrap .u64 (wr (v24 - 1))) then (if ((!v14) && (decide ((shl_ .u64 1 (IntKind.wrap .u64 (wr (v24 - 1))))≤r15.1))) then (some (IntKind.wrap .i64 (IntKind.wrap .u64 ((shl_ .u64 1 (IntKind.wrap .u64 (wr (v24 - 1)))) - 1)),1)) else (if (v14 && (decide ((shl_ .u64 1 (IntKind.wrap .u64 (wr (v24 - 1)))) < r15.1))) then (if -9223372036854775807≤IntKind.wrap .i64 (shl_ .u64 1 (IntKind.wrap .u64 (wr (v24 - 1))))∧IntKind.wrap .i64 (shl_ .u64 1 (IntKind.wrap .u64 (wr (v24 - 1))))≤9223372036854775807 then (some ((-(IntKind.wrap .i64 (shl_ .u64 1 (IntKind.wrap .u64 (wr (v24 - 1)))))),1)) else none) else (if v14 then (if -9223372036854775807≤IntKind.wrap .i64 r15.1∧IntKind.wrap .i64 r15.1≤9223372036854775807 then (z5l (-(IntKind.wrap .i64 r15.1))) else none) else (z5l (IntKind.wrap .i64 r15.1))))) else none
noncomputable def z5n (v3:Int) (v14:Bool) (r15:(Int×Int)) (v21:Bool):Option (Int×Int):=
 if v21 then (some (0,r15.2)) else (if decide (v3=0) then (z5m v14 r15 64) else (z5m v14 r15 v3))
noncomputable def z3p (v2:Int) (v3:Int) (v13:Bs) (v14:Bool):Option (Int×Int):=
 (z8z v13 v2 v3).bind fun (r15:(Int×Int))=>if decide (r15.2≠0) then (if (0:Int)≤r15.2∧r15.2≤(4:Int) then (z5n v3 v14 r15 (decide (r15.2≠1))) else none) else (z5n v3 v14 r15 false)
noncomputable def z7b (v1:Bs) (v2:Int) (v3:Int):Option (Int×Int):=
 if decide (v1=[]) then (some (0,2)) else ((v1[0]?).bind fun (x5:UInt8)=>if decide ((x5.toNat:Int)=43) then ((sub? v1 1 (v1.length:Int)).bind fun (l8:Bs)=>z3p v2 v3 l8 false) else (if decide ((x5.toNat:Int)=45) then ((sub? v1 1 (v1.length:Int)).bind fun (l11:Bs)=>z3p v2 v3 l11 true) else (z3p v2 v3 v1 false)))
noncomputable def z58 (s1:Bs) (base2:Int) (bitSize3:Int):Option (Int×Int):=
 (z7b s1 base2 bitSize3).bind fun (r4:(Int×Int))=>if decide (r4.2≠0) then ((y3a [80,97,114,115,101,73,110,116] s1 base2 bitSize3 r4.2).bind fun (r7:(Int))=>some (r4.1,r7)) else (some (r4.1,0))
noncomputable def z67 (i1:Int) (base2:Int):Option (Bs):=
 if decide (base2=10) then (if ((decide (0≤i1)) && (decide (i1 < 100))) then ((z8l i1).bind fun (r5:(Bs))=>some r5) else none) else ((z3h ([]:(List Int)) (IntKind.wrap .u64 i1) base2 (decide (i1 < 0)) false).bind fun (r7:((List Int)×Bs))=>some r7.2)
noncomputable def z5x (i1:Int) (base2:Int):Option (Bs):=
 (z67 i1 base2).bind fun (r3:(Bs))=>some r3
noncomputable def z6u (out23:Bs):Option (Bs):=
 some out23
noncomputable def z2c (bits7:Bs) (out8:Bs):Option ((Bs×Bs) ⊕ (Bs)):=
 if decide (bits7≠[]) then ((sub? bits7 0 (min 6 (bits7.length:Int))).bind fun (l11:Bs)=>(sub? [48,48,48,48,48,48] (min 6 (bits7.length:Int)) ([48,48,48,48,48,48].length:Int)).bind fun (l13:Bs)=>if l11.length+l13.length≤1000000000 then ((z58 (l11++l13) 2 64).bind fun (r16:(Int×Int))=>(sub? [65,66,67,68,69,70,71,72,73,74,75,76,77,78,79,80,81,82,83,84,85,86,87,88,89,90,97,98,99,100,101,102,103,104,105,106,107,108,109,110,111,112,113,114,115,116,117,118,119,120,121,122,48,49,50,51,52,53,54,55,56,57,45,95] r16.1 (wr (r16.1+1))).bind fun (l18:Bs)=>if out8.length+l18.length≤1000000000 then ((sub? bits7 (min 6 (bits7.length:Int)) (bits7.length:Int)).bind fun (l21:Bs)=>some (.inl (l21,(out8++l18)))) else none) else none) else (Option.map .inr (z6u out8))
noncomputable def z6t (k3:Nat) (x6:UInt8) (bits2:Bs):Option (Bs ⊕ (Bs)):=
 (z5x (wr (256+(IntKind.wrap .i64 (x6.toNat:Int)))) 2).bind fun (r26:(Bs))=>(sub? r26 1 (r26.length:Int)).bind fun (l28:Bs)=>if bits2.length+l28.length≤1000000000 then (some (.inl (bits2++l28))) else none
noncomputable def z6v (bits2:Bs):Option (Bs):=
 iter (fun (s:Bs×Bs)=>z2c s.1 s.2) (bits2,[])
noncomputable def z5i (s1:Bs):Option (Bs):=
 if s1.length≤1000000000 then forL (fun (k:Nat) (x:UInt8) (s:Bs)=>z6t k x s) (fun (s:Bs)=>z6v s) 0 s1 [] else none
noncomputable def y1c (k5:Nat) (x8:UInt8) (h4:Int):Option (Int ⊕ (Int)):=
 some (.inl (IntKind.wrap .u64 ((xor_ .u64 h4 (IntKind.wrap .u64 (x8.toNat:Int))) * 1099511628211)))
noncomputable def y1d (h4:Int):Option (Int):=
 some h4
noncomputable def y1x (l1:(List Bs)):Option (Int):=
 (z3n l1 [0]).bind fun (r2:(Bs))=>if r2.length≤1000000000 then forL (fun (k:Nat) (x:UInt8) (s:Int)=>y1c k x s) (fun (s:Int)=>y1d s) 0 r2 14695981039346656037 else none
noncomputable def z9x (h1:Int):Option (Bs):=
 (z7l h1 16).bind fun (r2:(Bs))=>(z41 [48] (wr (16 - (r2.length:Int)))).bind fun (r4:(Bs))=>if r4.length+r2.length≤1000000000 then (some (r4++r2)) else none
noncomputable def y10 (k6:Nat) (h5:Int):Option (Int ⊕ (Bs)):=
 some (.inl (IntKind.wrap .u64 ((xor_ .u64 h5 (shr_ .u64 h5 29)) * 13787848793156543929)))
noncomputable def z89 (h5:Int):Option (Bs):=
 (z9x h5).bind fun (r9:(Bs))=>some r9
noncomputable def z3w (secret1:Bs) (text2:Bs):Option (Bs):=
 (y1x [secret1,text2,secret1]).bind fun (r3:(Int))=>if 3≤1000000000 then rng (fun (k:Nat) (s:Int)=>y10 k s) (fun (s:Int)=>z89 s) 3 0 r3 else none
noncomputable def z8n (l1:(List z0g)) (c2:z0e) (v3:Int):Option (Bs×Int):=
 (z5p c2).bind fun (r4:(Bs×Int))=>if decide (r4.2≠0) then (some ([],r4.2)) else ((y0l v3).bind fun (r7:(Bool))=>if !r7 then (some ([],1)) else ((z4q l1 v3).bind fun (r10:(z0g×Bool))=>if !r10.2 then (some ([],8)) else (if decide (r10.1.Until < c2.To) then (some ([],1)) else (if r10.1.Id.length+[46].length≤1000000000 then ((z5i r4.1).bind fun (r15:(Bs))=>if (r10.1.Id++[46]).length+r15.length≤1000000000 then (if ((r10.1.Id++[46])++r15).length+[46].length≤1000000000 then ((z3w r10.1.Secret ((r10.1.Id++[46])++r15)).bind fun (r19:(Bs))=>if (((r10.1.Id++[46])++r15)++[46]).length+r19.length≤1000000000 then (some (((((r10.1.Id++[46])++r15)++[46])++r19),0)) else none) else none) else none) else none))))
noncomputable def z5c (s1:z0d) (t2:Bs) (v3:Bs):Option (Bs×z0d):=
 if ((decide (t2=[])) || (decide (v3=[]))) then (some (v3,s1)) else ((z1i s1 (t2.length:Int)).bind fun (r5:(Int×z0d))=>(z1i r5.2 (v3.length:Int)).bind fun (r7:(Int×z0d))=>(at? v3 r7.1).bind fun (x9:UInt8)=>(z1i r7.2 3).bind fun (r11:(Int×z0d))=>if decide (r11.1=0) then ((sub? t2 0 r5.1).bind fun (l14:Bs)=>if l14.length+(encL (IntKind.wrap .i32 (x9.toNat:Int))).length≤1000000000 then ((sub? t2 (wr (r5.1+1)) (t2.length:Int)).bind fun (l17:Bs)=>if (l14++(encL (IntKind.wrap .i32 (x9.toNat:Int)))).length+l17.length≤1000000000 then (some (((l14++(encL (IntKind.wrap .i32 (x9.toNat:Int))))++l17),r11.2)) else none) else none) else (if decide (r11.1=1) then ((sub? t2 0 r5.1).bind fun (l21:Bs)=>if l21.length+(encL (IntKind.wrap .i32 (x9.toNat:Int))).length≤1000000000 then ((sub? t2 r5.1 (t2.length:Int)).bind fun (l24:Bs)=>if (l21++(encL (IntKind.wrap .i32 (x9.toNat:Int)))).length+l24.length≤1000000000 then (some (((l21++(encL (IntKind.wrap .i32 (x9.toNat:Int))))++l24),r11.2)) else none) else none) else ((sub? t2 0 r5.1).bind fun (l27:Bs)=>(sub? t2 (wr (r5.1+1)) (t2.length:Int)).bind fun (l29:Bs)=>if l27.length+l29.length≤1000000000 then (some ((l27++l29),r11.2)) else none)))
noncomputable def z3j (t23:Bs) (c24:(List Int)) (c25:Int):Option (Bs×z0d):=
 some (t23,(z0d.mk c24 c25))
noncomputable def z6m (k11:Nat) (t8:Bs) (c9:(List Int)) (c10:Int):Option ((Bs×(List Int)×Int) ⊕ (Bs×z0d)):=
 (z5c (z0d.mk c9 c10) t8 [32,10,105,116,48,115,58]).bind fun (r27:(Bs×z0d))=>some (.inl (r27.1,r27.2.L,r27.2.at_))
noncomputable def z6n (t8:Bs) (c9:(List Int)) (c10:Int):Option (Bs×z0d):=
 (z1o (z0d.mk c9 c10) 10).bind fun (r14:(Bool×z0d))=>if r14.1 then ((z03 r14.2 ([[105,100,32,116,49,10],[116,105,109,101],[10,105,115,115,117,101,114],[115,117,98,106,101,99,116],[109,97,121]])).bind fun (r17:(Bs×z0d))=>(z03 r17.2 ([[],[102,111,114],[10,105,100],[109,97,121],[10]])).bind fun (r19:(Bs×z0d))=>(y1w t8 r17.1 r19.1 1).bind fun (r21:(Bs))=>z3j r21 r19.2.L r19.2.at_) else (z3j t8 r14.2.L r14.2.at_)
noncomputable def z5j (s1:z0d):Option (Bs×z0d):=
 (z1v s1).bind fun (r2:(z0e×z0d))=>(z5g r2.1).bind fun (r4:(Bs))=>(z1t r2.2 [0,0,1,2]).bind fun (r6:(Int×z0d))=>if r6.1≤1000000000 then rng (fun (k:Nat) (s:Bs×(List Int)×Int)=>z6m k s.1 s.2.1 s.2.2) (fun (s:Bs×(List Int)×Int)=>z6n s.1 s.2.1 s.2.2) r6.1.toNat 0 (r4,r6.2.L,r6.2.at_) else none
noncomputable def z23 (v56:Bs) (c57:(List Int)) (c58:Int):Option (Bs×z0d):=
 some (v56,(z0d.mk c57 c58))
noncomputable def z2i (v43:Bs) (c44:(List Int)) (c45:Int):Option (Bs×z0d):=
 (z1o (z0d.mk c44 c45) 25).bind fun (r46:(Bool×z0d))=>if r46.1 then ((z03 r46.2 ([[65],[89,82],[42],[]])).bind fun (r49:(Bs×z0d))=>if [115,49,46].length+r49.1.length≤1000000000 then (if ([115,49,46]++r49.1).length+[46].length≤1000000000 then ((z3w [111,110,101] ([115,49,46]++r49.1)).bind fun (r53:(Bs))=>if (([115,49,46]++r49.1)++[46]).length+r53.length≤1000000000 then (z23 ((([115,49,46]++r49.1)++[46])++r53) r49.2.L r49.2.at_) else none) else none) else none) else (z23 v43 r46.2.L r46.2.at_)
noncomputable def z2j (v35:Bs) (c36:(List Int)) (c37:Int):Option (Bs×z0d):=
 (z1o (z0d.mk c36 c37) 8).bind fun (r38:(Bool×z0d))=>if r38.1 then ((z5c r38.2 v35 [65,46,98,95,48]).bind fun (r41:(Bs×z0d))=>z2i r41.1 r41.2.L r41.2.at_) else (z2i v35 r38.2.L r38.2.at_)
noncomputable def z2k (s1:z0d) (v17:Bs):Option (Bs×z0d):=
 (z1o s1 8).bind fun (r18:(Bool×z0d))=>if r18.1 then ((z03 r18.2 ([[115,49],[115,50],[115,57]])).bind fun (r21:(Bs×z0d))=>if r21.1.length+[46].length≤1000000000 then ((z5j r21.2).bind fun (r24:(Bs×z0d))=>(z5i r24.1).bind fun (r26:(Bs))=>if (r21.1++[46]).length+r26.length≤1000000000 then (if ((r21.1++[46])++r26).length+[46].length≤1000000000 then ((z03 r24.2 ([[111,110,101],[116,119,111]])).bind fun (r30:(Bs×z0d))=>(z3w r30.1 ((r21.1++[46])++r26)).bind fun (r32:(Bs))=>if (((r21.1++[46])++r26)++[46]).length+r32.length≤1000000000 then (z2j ((((r21.1++[46])++r26)++[46])++r32) r30.2.L r30.2.at_) else none) else none) else none) else none) else (z2j v17 r18.2.L r18.2.at_)
noncomputable def z42 (s1:z0d) (v2:(List z0g)) (v3:z0e) (v4:Int):Option (Bs×z0d):=
 (z8n v2 v3 v4).bind fun (r5:(Bs×Int))=>if decide (r5.2≠0) then ((z5g v3).bind fun (r8:(Bs))=>(z5i r8).bind fun (r10:(Bs))=>if [115,49,46].length+r10.length≤1000000000 then (if ([115,49,46]++r10).length+[46].length≤1000000000 then ((z3w [111,110,101] ([115,49,46]++r10)).bind fun (r14:(Bs))=>if (([115,49,46]++r10)++[46]).length+r14.length≤1000000000 then (z2k s1 ((([115,49,46]++r10)++[46])++r14)) else none) else none) else none) else (z2k s1 r5.1)
noncomputable def y04 (x1:z0g) (c2:(List Bs)):Option (Bool):=
 (c2[0]?).bind fun (x3:Bs)=>some (decide (x1.Id=x3))
noncomputable def z9e (x6:Int) (k11:Nat) (l10:(List Int)):Option ((List Int) ⊕ ((Bs×(List Int)) ⊕ (Bs×Int))):=
 if (0:Int)≤(wr (16 - (wr (8 * (k11:Int))))) then (if l10.length+1≤1000000000 then (some (.inl (l10++[IntKind.wrap .u8 (shr_ .i64 x6 (wr (16 - (wr (8 * (k11:Int))))))]))) else none) else none
noncomputable def z9g (rest2:Bs) (l10:(List Int)):Option ((Bs×(List Int)) ⊕ (Bs×Int)):=
 (sub? rest2 (min 4 (rest2.length:Int)) (rest2.length:Int)).bind fun (l14:Bs)=>some (.inl (l14,l10))
noncomputable def z8c (x26:Int):Option (Int ⊕ ((Bs×(List Int)) ⊕ (Bs×Int))):=
 some (.inl x26)
noncomputable def z3k (rest2:Bs) (k7:Nat) (x6:Int):Option (Int ⊕ ((Bs×(List Int)) ⊕ (Bs×Int))):=
 if decide ((k7:Int) < (min 4 (rest2.length:Int))) then ((rest2[k7]?).bind fun (x21:UInt8)=>(z6r [65,66,67,68,69,70,71,72,73,74,75,76,77,78,79,80,81,82,83,84,85,86,87,88,89,90,97,98,99,100,101,102,103,104,105,106,107,108,109,110,111,112,113,114,115,116,117,118,119,120,121,122,48,49,50,51,52,53,54,55,56,57,45,95] (x21.toNat:Int)).bind fun (r23:(Int))=>if decide (r23 < 0) then (some (.inr (.inr ([],9)))) else (z8c (or_ .i64 (shl_ .i64 x6 6) r23))) else (z8c (shl_ .i64 x6 6))
noncomputable def y1l (rest2:Bs) (l3:(List Int)) (x6:Int):Option ((Bs×(List Int)) ⊕ (Bs×Int)):=
 if (wr ((min 4 (rest2.length:Int)) - 1))≤1000000000 then rng (fun (k:Nat) (s:(List Int))=>z9e x6 k s) (fun (s:(List Int))=>z9g rest2 s) ((wr ((min 4 (rest2.length:Int)) - 1)).toNat) 0 l3 else none
noncomputable def z9f (s1:Bs) (out27:(List Int)):Option (Bs×Int):=
 (z69 (strN out27)).bind fun (r28:(Bs))=>if decide (r28≠s1) then (some ([],9)) else (some ((strN out27),0))
noncomputable def z6f (s1:Bs) (rest2:Bs) (l3:(List Int)):Option ((Bs×(List Int)) ⊕ (Bs×Int)):=
 if decide (0 < (rest2.length:Int)) then (if 4≤1000000000 then rng (fun (k:Nat) (s:Int)=>z3k rest2 k s) (fun (s:Int)=>y1l rest2 l3 s) 4 0 0 else none) else (Option.map .inr (z9f s1 l3))
noncomputable def y17 (s1:Bs):Option (Bs×Int):=
 iter (fun (s:Bs×(List Int))=>z6f s1 s.1 s.2) (s1,[])
noncomputable def y4f (s1:Bs):Option ((List Bs)×Bool):=
 (z2s s1 [10]).bind fun (r2:((List Bs)))=>(at? r2 (wr ((r2.length:Int) - 1))).bind fun (x4:Bs)=>if decide (x4=[]) then ((sub? r2 0 (wr ((r2.length:Int) - 1))).bind fun (l7:(List Bs))=>some (l7,true)) else (some (r2,false))
noncomputable def z7o (v2:Bs) (k3:Nat) (x6:Bs):Option (Unit ⊕ (Int)):=
 if decide (v2=x6) then (some (.inr (k3:Int))) else (some (.inl ()))
noncomputable def z7p:Option (Int):=
 some (-1)
noncomputable def z2q (s1:(List Bs)) (v2:Bs):Option (Int):=
 if s1.length≤1000000000 then forL (fun (k:Nat) (x:Bs) (s:Unit)=>z7o v2 k x) (fun (s:Unit)=>z7p) 0 s1 () else none
noncomputable def z3d (s1:(List Bs)) (v2:Bs):Option (Bool):=
 (z2q s1 v2).bind fun (r3:(Int))=>some (decide (0≤r3))
noncomputable def y4e (s1:Bs):Option ((List Bs)×Bool):=
 (z2s s1 [32]).bind fun (r2:((List Bs)))=>(z3d r2 []).bind fun (r4:(Bool))=>some (r2,!r4)
noncomputable def z1c (s1:z0i) (v2:Bs) (v3:Bool):Option ((List Bs)×z0i):=
 if s1.bad_ then (some ([],s1)) else (if decide (s1.at_=(s1.lines_.length:Int)) then (some ([],(z0i.mk s1.lines_ s1.ended_ s1.at_ v3))) else ((at? s1.lines_ s1.at_).bind fun (x6:Bs)=>(z92 x6 [32]).bind fun (r8:(Bs×Bs×Bool))=>if decide (r8.1≠v2) then (some ([],(z0i.mk s1.lines_ s1.ended_ s1.at_ v3))) else ((y4e r8.2.1).bind fun (r11:((List Bs)×Bool))=>if ((!r11.2) || ((!s1.ended_) && (decide (s1.at_=(wr ((s1.lines_.length:Int) - 1)))))) then (some ([],(z0i.mk s1.lines_ s1.ended_ s1.at_ true))) else (some (r11.1,(z0i.mk s1.lines_ s1.ended_ (wr (s1.at_+1)) s1.bad_))))))
noncomputable def z5a (r4:((List Bs)×z0i)) (c7:Int) (c8:Bool):Option (Bs×z0i):=
 if decide ((r4.1.length:Int)≠1) then (some ([],(z0i.mk r4.2.lines_ r4.2.ended_ c7 c8))) else ((r4.1[0]?).bind fun (x10:Bs)=>some (x10,(z0i.mk r4.2.lines_ r4.2.ended_ c7 c8)))
noncomputable def z1b (s1:z0i) (word2:Bs) (must3:Bool):Option (Bs×z0i):=
 (z1c s1 word2 must3).bind fun (r4:((List Bs)×z0i))=>if decide (1 < (r4.1.length:Int)) then (z5a r4 (wr (r4.2.at_ - 1)) true) else (z5a r4 r4.2.at_ r4.2.bad_)
noncomputable def z5r (k15:Nat) (x18:Int) (v14:Int):Option (Int ⊕ (Int×Int)):=
 if decide (9 < (IntKind.wrap .u8 (x18 - 48))) then (some (.inr (0,2))) else (some (.inl (wr ((wr (v14 * 10))+(IntKind.wrap .i64 (IntKind.wrap .u8 (x18 - 48)))))))
noncomputable def z32 (v23:Int):Option (Int×Int):=
 some (v23,0)
noncomputable def z35 (v1:Bs) (v14:Int):Option (Int×Int):=
 (v1[0]?).bind fun (x19:UInt8)=>if decide ((x19.toNat:Int)=45) then (if -9223372036854775807≤v14∧v14≤9223372036854775807 then (z32 (-v14)) else none) else (z32 v14)
noncomputable def z34 (v1:Bs) (v13:Bs):Option (Int×Int):=
 if (y0v v13).length≤1000000000 then forL (fun (k:Nat) (x:Int) (s:Int)=>z5r k x s) (fun (s:Int)=>z35 v1 s) 0 (y0v v13) 0 else none
noncomputable def z33 (v1:Bs) (v8:Bool):Option (Int×Int):=
 if v8 then ((sub? v1 1 (v1.length:Int)).bind fun (l10:Bs)=>if decide ((l10.length:Int) < 1) then (some (0,2)) else (z34 v1 l10)) else (z34 v1 v1)
noncomputable def z4p (v1:Bs):Option (Int×Int):=
 if ((false && ((decide (0 < (v1.length:Int))) && (decide ((v1.length:Int) < 10)))) || (true && ((decide (0 < (v1.length:Int))) && (decide ((v1.length:Int) < 19))))) then ((v1[0]?).bind fun (x3:UInt8)=>if decide ((x3.toNat:Int)=45) then (z33 v1 true) else (z33 v1 (decide ((x3.toNat:Int)=43)))) else ((z7b v1 10 0).bind fun (r27:(Int×Int))=>some (r27.1,r27.2))
noncomputable def z79 (s1:Bs):Option (Int×Int):=
 (z4p s1).bind fun (r2:(Int×Int))=>if decide (r2.2≠0) then ((y3a [65,116,111,105] s1 0 0 r2.2).bind fun (r5:(Int))=>some (r2.1,r5)) else (some (r2.1,0))
noncomputable def y2y (v29:Bool):Option (Unit ⊕ (Int×Bool)):=
 if v29 then (some (.inr (0,false))) else (some (.inl ()))
noncomputable def y2x (i18:Nat) (x21:UInt8):Option (Unit ⊕ (Int×Bool)):=
 if decide ((x21.toNat:Int) < 48) then (y2y true) else (y2y (decide (57 < (x21.toNat:Int))))
noncomputable def y1y (s1:Bs):Option (Int×Bool):=
 (z79 s1).bind fun (r22:(Int×Int))=>some (r22.1,decide (r22.2=0))
noncomputable def z5k (s1:Bs) (r3:(Bs)) (v16:Bool):Option (Int×Bool):=
 if v16 then (some (0,false)) else (if r3.length≤1000000000 then forL (fun (k:Nat) (x:UInt8) (s:Unit)=>y2x k x) (fun (s:Unit)=>y1y s1) 0 r3 () else none)
noncomputable def y0s (s1:Bs) (most2:Int):Option (Int×Bool):=
 (z7k s1 [45]).bind fun (r3:(Bs))=>if decide (r3=[]) then (z5k s1 r3 true) else (if decide (most2 < (r3.length:Int)) then (z5k s1 r3 true) else ((r3[0]?).bind fun (x9:UInt8)=>if decide ((x9.toNat:Int)=48) then (z5k s1 r3 (decide (s1≠[48]))) else (z5k s1 r3 false)))
noncomputable def z3e (r2:((List Bs)×z0i)):Option (Int×Int×z0i):=
 some (0,0,(z0i.mk r2.2.lines_ r2.2.ended_ (wr (r2.2.at_ - 1)) true))
noncomputable def z2e (s1:z0i):Option (Int×Int×z0i):=
 (z1c s1 [116,105,109,101] true).bind fun (r2:((List Bs)×z0i))=>if r2.2.bad_ then (some (0,0,r2.2)) else (if decide ((r2.1.length:Int)=2) then ((r2.1[0]?).bind fun (x6:Bs)=>(y0s x6 15).bind fun (r8:(Int×Bool))=>(r2.1[1]?).bind fun (x10:Bs)=>(y0s x10 15).bind fun (r12:(Int×Bool))=>if (r8.2 && r12.2) then (some (r8.1,r12.1,r2.2)) else (z3e r2)) else (z3e r2))
noncomputable def z91 (v1:Bs):Option (z0e×Int×Int):=
 if decide (4000 < (v1.length:Int)) then (some ((z0e.mk [] [] [] [] [] [] 0 0),0,2)) else ((y4f v1).bind fun (r3:((List Bs)×Bool))=>(z1b (z0i.mk r3.1 r3.2 0 false) [105,100] true).bind fun (r5:(Bs×z0i))=>(z1b r5.2 [115,117,98,106,101,99,116] true).bind fun (r7:(Bs×z0i))=>(z1b r7.2 [105,115,115,117,101,114] true).bind fun (r9:(Bs×z0i))=>(z1b r9.2 [112,97,114,101,110,116] false).bind fun (r11:(Bs×z0i))=>(z1c r11.2 [102,111,114] false).bind fun (r13:((List Bs)×z0i))=>(z1c r13.2 [109,97,121] false).bind fun (r15:((List Bs)×z0i))=>(z2e r15.2).bind fun (r17:(Int×Int×z0i))=>if (r17.2.2.bad_ || (decide (r17.2.2.at_ < (r17.2.2.lines_.length:Int)))) then (some ((z0e.mk [] [] [] [] [] [] 0 0),r17.2.2.at_,9)) else ((z6q (z0e.mk r5.1 r7.1 r9.1 r11.1 r13.1 r15.1 r17.1 r17.2.1)).bind fun (r20:(Int))=>if decide (r20≠0) then (some ((z0e.mk [] [] [] [] [] [] 0 0),0,r20)) else (some ((z0e.mk r5.1 r7.1 r9.1 r11.1 r13.1 r15.1 r17.1 r17.2.1),0,0))))
noncomputable def y1u (r40:(z0e×Int×Int)) (v46:Bool):Option (z0e×Int):=
 if v46 then (some ((z0e.mk [] [] [] [] [] [] 0 0),11)) else (some (r40.1,0))
noncomputable def z9y (v1:(List z0g)) (v3:Int) (r10:((List Bs))) (v19:Bool):Option (z0e×Int):=
 if v19 then (some ((z0e.mk [] [] [] [] [] [] 0 0),9)) else ((z1k v1 (fun (a0:z0g)=>y04 a0 r10)).bind fun (r21:(Int))=>if decide (r21 < 0) then (some ((z0e.mk [] [] [] [] [] [] 0 0),8)) else ((at? v1 r21).bind fun (x24:z0g)=>(r10[0]?).bind fun (x26:Bs)=>if x26.length+[46].length≤1000000000 then ((r10[1]?).bind fun (x29:Bs)=>if (x26++[46]).length+x29.length≤1000000000 then ((y1n x24.Secret ((x26++[46])++x29)).bind fun (r32:(Bs))=>(r10[2]?).bind fun (x34:Bs)=>if decide (r32≠x34) then (some ((z0e.mk [] [] [] [] [] [] 0 0),15)) else ((y17 x29).bind fun (r37:(Bs×Int))=>if decide (r37.2≠0) then (some ((z0e.mk [] [] [] [] [] [] 0 0),r37.2)) else ((z91 r37.1).bind fun (r40:(z0e×Int×Int))=>if decide (r40.2.2≠0) then (some ((z0e.mk [] [] [] [] [] [] 0 0),r40.2.2)) else (if decide (v3 < x24.From) then (y1u r40 true) else (y1u r40 (decide (x24.Until≤v3))))))) else none) else none))
noncomputable def y3j (v1:(List z0g)) (v2:Bs) (v3:Int):Option (z0e×Int):=
 (z7j v1).bind fun (r4:(Int))=>if decide (r4≠0) then (some ((z0e.mk [] [] [] [] [] [] 0 0),r4)) else ((z7x v3).bind fun (r7:(Int))=>if decide (r7≠0) then (some ((z0e.mk [] [] [] [] [] [] 0 0),r7)) else ((z2s v2 [46]).bind fun (r10:((List Bs)))=>if decide ((r10.length:Int)≠3) then (z9y v1 v3 r10 true) else ((r10[0]?).bind fun (x14:Bs)=>(z7y x14).bind fun (r16:(Bool))=>z9y v1 v3 r10 (!r16))))
noncomputable def z71 (x1:z0g) (c2:(List Bs)):Option (Bool):=
 (c2[0]?).bind fun (x3:Bs)=>some (decide (x1.Id=x3))
noncomputable def z6w (s1:Bs) (out18:(List Int)):Option (Bs×Int):=
 (z5i (strN out18)).bind fun (r19:(Bs))=>if decide (r19≠s1) then (some ([],9)) else (some ((strN out18),0))
noncomputable def z1p (s1:Bs) (bits7:Bs) (l8:(List Int)):Option ((Bs×(List Int)) ⊕ (Bs×Int)):=
 if decide (8≤(bits7.length:Int)) then ((sub? bits7 0 8).bind fun (l11:Bs)=>(z58 l11 2 64).bind fun (r13:(Int×Int))=>if l8.length+1≤1000000000 then ((sub? bits7 8 (bits7.length:Int)).bind fun (l16:Bs)=>some (.inl (l16,(l8++[IntKind.wrap .u8 r13.1])))) else none) else (Option.map .inr (z6w s1 l8))
noncomputable def z4u (k3:Nat) (x6:UInt8) (bits2:Bs):Option (Bs ⊕ (Bs×Int)):=
 (z6r [65,66,67,68,69,70,71,72,73,74,75,76,77,78,79,80,81,82,83,84,85,86,87,88,89,90,97,98,99,100,101,102,103,104,105,106,107,108,109,110,111,112,113,114,115,116,117,118,119,120,121,122,48,49,50,51,52,53,54,55,56,57,45,95] (x6.toNat:Int)).bind fun (r24:(Int))=>if decide (r24 < 0) then (some (.inr ([],9))) else ((z5x (wr (64+r24)) 2).bind fun (r27:(Bs))=>(sub? r27 1 (r27.length:Int)).bind fun (l29:Bs)=>if bits2.length+l29.length≤1000000000 then (some (.inl (bits2++l29))) else none)
noncomputable def z6x (s1:Bs) (bits2:Bs):Option (Bs×Int):=
 iter (fun (s:Bs×(List Int))=>z1p s1 s.1 s.2) (bits2,[])
noncomputable def z95 (s1:Bs):Option (Bs×Int):=
 if s1.length≤1000000000 then forL (fun (k:Nat) (x:UInt8) (s:Bs)=>z4u k x s) (fun (s:Bs)=>z6x s1 s) 0 s1 [] else none
noncomputable def z5z (s1:Bs):Option (Bool):=
 some (((decide (s1≠[112,97,114,101,110,116])) && (decide (s1≠[102,111,114]))) && (decide (s1≠[109,97,121])))
noncomputable def z8q (r15:(Int×Int)) (v22:Bool):Option (Int×Bool):=
 some (r15.1,v22)
noncomputable def z3l (s1:Bs) (v13:Bool):Option (Int×Bool):=
 if v13 then (some (0,false)) else ((z79 s1).bind fun (r15:(Int×Int))=>if decide (r15.2=0) then ((z7a r15.1).bind fun (r19:(Bs))=>z8q r15 (decide (r19=s1))) else (z8q r15 false))
noncomputable def z6z (s1:Bs) (most2:Int):Option (Int×Bool):=
 (z7k s1 [45]).bind fun (r3:(Bs))=>if decide (r3=[]) then (z3l s1 true) else (if decide (most2 < (r3.length:Int)) then (z3l s1 true) else ((z8f r3 [48,49,50,51,52,53,54,55,56,57]).bind fun (r9:(Bool))=>z3l s1 (!r9)))
noncomputable def z8a (s1:z0e) (v2:(List Bs)):Option (Bool×z0e):=
 (v2[0]?).bind fun (x3:Bs)=>if decide (x3=[102,111,114]) then ((sub? v2 1 (v2.length:Int)).bind fun (l6:(List Bs))=>some (decide (1 < (v2.length:Int)),(z0e.mk s1.Id s1.Subject s1.Issuer s1.Parent l6 s1.Scopes s1.From s1.To))) else (if decide (x3=[109,97,121]) then ((sub? v2 1 (v2.length:Int)).bind fun (l9:(List Bs))=>some (decide (1 < (v2.length:Int)),(z0e.mk s1.Id s1.Subject s1.Issuer s1.Parent s1.Audience l9 s1.From s1.To))) else (if decide (x3=[116,105,109,101]) then (if decide ((v2.length:Int)≠3) then (some (false,s1)) else ((v2[1]?).bind fun (x13:Bs)=>(z6z x13 15).bind fun (r15:(Int×Bool))=>(v2[2]?).bind fun (x17:Bs)=>(z6z x17 15).bind fun (r19:(Int×Bool))=>some ((r15.2 && r19.2),(z0e.mk s1.Id s1.Subject s1.Issuer s1.Parent s1.Audience s1.Scopes r15.1 r19.1)))) else (if decide ((v2.length:Int)≠2) then (some (false,s1)) else (if [105,100].length≤1000000000 then (if [115,117,98,106,101,99,116].length≤1000000000 then (if [105,115,115,117,101,114].length≤1000000000 then (if [112,97,114,101,110,116].length≤1000000000 then (if x3.length≤1000000000 then ((v2[1]?).bind fun (x27:Bs)=>if z6d ((lkG ([([105,100],(0:Int)),([115,117,98,106,101,99,116],(1:Int)),([105,115,115,117,101,114],(2:Int)),([112,97,114,101,110,116],(3:Int))]:List (Bs×Int)) x3).getD (-1))=true then ((some (y07 s1 ((lkG ([([105,100],(0:Int)),([115,117,98,106,101,99,116],(1:Int)),([105,115,115,117,101,114],(2:Int)),([112,97,114,101,110,116],(3:Int))]:List (Bs×Int)) x3).getD (-1)) x27)).bind fun (c30:z0e)=>some (true,c30)) else none) else none) else none) else none) else none) else none))))
noncomputable def z2l (v5:Int) (r17:(Bs×Bs×Bool)) (r23:(Int)) (v45:Bool) (c46:Bs) (c47:Bs) (c48:Bs) (c49:Bs) (c50:(List Bs)) (c51:(List Bs)) (c52:Int) (c53:Int):Option ((Bs×Int×Int×Bs×Bs×Bs×Bs×(List Bs)×(List Bs)×Int×Int) ⊕ (z0e×Int×Int)):=
 if v45 then (some (.inr ((z0e.mk [] [] [] [] [] [] 0 0),v5,9))) else (some (.inl (r17.2.1,wr (r23+1),wr (v5+1),c46,c47,c48,c49,c50,c51,c52,c53)))
noncomputable def z7w (c55:Bs) (c56:Bs) (c57:Bs) (c58:Bs) (c59:(List Bs)) (c60:(List Bs)) (c61:Int) (c62:Int):Option (z0e×Int×Int):=
 (z5h (z0e.mk c55 c56 c57 c58 c59 c60 c61 c62)).bind fun (r63:(Int))=>if decide (r63≠0) then (some ((z0e.mk [] [] [] [] [] [] 0 0),0,r63)) else (some ((z0e.mk c55 c56 c57 c58 c59 c60 c61 c62),0,0))
noncomputable def z19 (v3:Bs) (v4:Int) (v5:Int) (c6:Bs) (c7:Bs) (c8:Bs) (c9:Bs) (c10:(List Bs)) (c11:(List Bs)) (c12:Int) (c13:Int):Option ((Bs×Int×Int×Bs×Bs×Bs×Bs×(List Bs)×(List Bs)×Int×Int) ⊕ (z0e×Int×Int)):=
 if decide (v3=[]) then (if decide (v4=(([[105,100],[115,117,98,106,101,99,116],[105,115,115,117,101,114],[112,97,114,101,110,116],[102,111,114],[109,97,121],[116,105,109,101]]).length:Int)) then (Option.map .inr (z7w c6 c7 c8 c9 c10 c11 c12 c13)) else (some (.inr ((z0e.mk [] [] [] [] [] [] 0 0),v5,9)))) else ((z92 v3 [10]).bind fun (r17:(Bs×Bs×Bool))=>(z2s r17.1 [32]).bind fun (r19:((List Bs)))=>(r19[0]?).bind fun (x21:Bs)=>(z2q ([[105,100],[115,117,98,106,101,99,116],[105,115,115,117,101,114],[112,97,114,101,110,116],[102,111,114],[109,97,121],[116,105,109,101]]) x21).bind fun (r23:(Int))=>(sub? ([[105,100],[115,117,98,106,101,99,116],[105,115,115,117,101,114],[112,97,114,101,110,116],[102,111,114],[109,97,121],[116,105,109,101]]) v4 (max r23 v4)).bind fun (l25:(List Bs))=>(z1r l25 (fun (a0:Bs)=>z5z a0)).bind fun (r27:(Bool))=>if !r17.2.2 then (z2l v5 r17 r23 true c6 c7 c8 c9 c10 c11 c12 c13) else (if decide (r23 < v4) then (z2l v5 r17 r23 true c6 c7 c8 c9 c10 c11 c12 c13) else (if r27 then (z2l v5 r17 r23 true c6 c7 c8 c9 c10 c11 c12 c13) else ((z3d r19 []).bind fun (r35:(Bool))=>if r35 then (z2l v5 r17 r23 true c6 c7 c8 c9 c10 c11 c12 c13) else ((z8a (z0e.mk c6 c7 c8 c9 c10 c11 c12 c13) r19).bind fun (r39:(Bool×z0e))=>z2l v5 r17 r23 (!r39.1) r39.2.Id r39.2.Subject r39.2.Issuer r39.2.Parent r39.2.Audience r39.2.Scopes r39.2.From r39.2.To)))))
noncomputable def z8g (v1:Bs):Option (z0e×Int×Int):=
 if decide (4000 < (v1.length:Int)) then (some ((z0e.mk [] [] [] [] [] [] 0 0),0,2)) else (iter (fun (s:Bs×Int×Int×Bs×Bs×Bs×Bs×(List Bs)×(List Bs)×Int×Int)=>z19 s.1 s.2.1 s.2.2.1 s.2.2.2.1 s.2.2.2.2.1 s.2.2.2.2.2.1 s.2.2.2.2.2.2.1 s.2.2.2.2.2.2.2.1 s.2.2.2.2.2.2.2.2.1 s.2.2.2.2.2.2.2.2.2.1 s.2.2.2.2.2.2.2.2.2.2) (v1,0,0,[],[],[],[],([]:(List Bs)),([]:(List Bs)),0,0))
noncomputable def z8p (r37:(z0e×Int×Int)) (v47:Int):Option (z0e×Int):=
 if decide (v47≠0) then (some ((z0e.mk [] [] [] [] [] [] 0 0),v47)) else (some (r37.1,0))
noncomputable def z7g (r37:(z0e×Int×Int)) (v45:Bool):Option (z0e×Int):=
 if v45 then (z8p r37 11) else (z8p r37 r37.2.2)
noncomputable def z6b (v1:(List z0g)) (v3:Int) (r7:((List Bs))) (v16:Bool):Option (z0e×Int):=
 if v16 then (some ((z0e.mk [] [] [] [] [] [] 0 0),9)) else ((z1k v1 (fun (a0:z0g)=>z71 a0 r7)).bind fun (r18:(Int))=>if decide (r18 < 0) then (some ((z0e.mk [] [] [] [] [] [] 0 0),8)) else ((at? v1 r18).bind fun (x21:z0g)=>(r7[0]?).bind fun (x23:Bs)=>if x23.length+[46].length≤1000000000 then ((r7[1]?).bind fun (x26:Bs)=>if (x23++[46]).length+x26.length≤1000000000 then ((z3w x21.Secret ((x23++[46])++x26)).bind fun (r29:(Bs))=>(r7[2]?).bind fun (x31:Bs)=>if decide (r29≠x31) then (some ((z0e.mk [] [] [] [] [] [] 0 0),15)) else ((z95 x26).bind fun (r34:(Bs×Int))=>if decide (r34.2≠0) then (some ((z0e.mk [] [] [] [] [] [] 0 0),r34.2)) else ((z8g r34.1).bind fun (r37:(z0e×Int×Int))=>if decide (r37.2.2=0) then (if decide (x21.From≤v3) then (z7g r37 (!(decide (v3 < x21.Until)))) else (z7g r37 (!false))) else (z7g r37 false)))) else none) else none))
noncomputable def y0k (v1:(List z0g)) (v2:Bs) (v3:Int):Option (z0e×Int):=
 (y0l v3).bind fun (r4:(Bool))=>if !r4 then (some ((z0e.mk [] [] [] [] [] [] 0 0),1)) else ((z2s v2 [46]).bind fun (r7:((List Bs)))=>if decide ((r7.length:Int)≠3) then (z6b v1 v3 r7 true) else ((r7[0]?).bind fun (x11:Bs)=>(z5b x11).bind fun (r13:(Bool))=>z6b v1 v3 r7 (!r13)))
noncomputable def z2u (v19:Bool):Option (Bool):=
 some v19
noncomputable def z6y (a1:z0e) (b2:z0e):Option (Bool):=
 if ((a1.Id == b2.Id) && ((a1.Subject == b2.Subject) && ((a1.Issuer == b2.Issuer) && ((a1.Parent == b2.Parent) && true)))) then ((z1y a1.Audience b2.Audience).bind fun (r5:(Bool))=>if r5 then ((z1y a1.Scopes b2.Scopes).bind fun (r9:(Bool))=>if r9 then (if decide (a1.From=b2.From) then (z2u (decide (a1.To=b2.To))) else (z2u false)) else (z2u false)) else (z2u false)) else (z2u false)
noncomputable def y0m  : Option (Bool):=
 (z69 [97,98]).bind fun (r1:(Bs))=>some (decide (r1=[89,87,73]))
noncomputable def z36 (v63:Bool):Option (Bool):=
 some v63
noncomputable def z38 (r39:(z0e×Int)) (v44:Int) (c45:Bs) (c46:Bs) (c47:Bs) (c48:Bs) (c49:(List Bs)) (c50:(List Bs)) (c51:Int) (c52:Int):Option (Bool):=
 if decide (r39.2=v44) then ((z6y r39.1 (z0e.mk c45 c46 c47 c48 c49 c50 c51 c52)).bind fun (r55:(Bool))=>if r55 then ((y0m ).bind fun (r59:(Bool))=>z36 r59) else (z36 false)) else (z36 false)
noncomputable def z39 (r2:((List z0g)×z0d)) (r8:(Int×z0d)) (r12:(Int)) (v38:Bs):Option (Bool):=
 (y3j r2.1 v38 r8.1).bind fun (r39:(z0e×Int))=>if decide (r12=0) then ((y0k r2.1 v38 r8.1).bind fun (r42:(z0e×Int))=>z38 r39 r42.2 r42.1.Id r42.1.Subject r42.1.Issuer r42.1.Parent r42.1.Audience r42.1.Scopes r42.1.From r42.1.To) else (z38 r39 r12 [] [] [] [] ([]:(List Bs)) ([]:(List Bs)) 0 0)
noncomputable def z28 (r2:((List z0g)×z0d)) (r8:(Int×z0d)) (r10:(Bs×Int)) (r12:(Int)) (v28:Bool) (c29:(List Int)) (c30:Int):Option (Bool):=
 if v28 then ((z1v (z0d.mk c29 c30)).bind fun (r32:(z0e×z0d))=>(z1t r32.2 [10,60,100]).bind fun (r34:(Int×z0d))=>(z42 r34.2 r2.1 r32.1 r34.1).bind fun (r36:(Bs×z0d))=>z39 r2 r8 r12 r36.1) else (z39 r2 r8 r12 r10.1)
noncomputable def z4a (r2:((List z0g)×z0d)) (r8:(Int×z0d)) (r10:(Bs×Int)) (r12:(Int)) (v17:Bs) (v18:Int):Option (Bool):=
 if ((decide (r10.2≠v18)) || (decide (r10.1≠v17))) then some false else (if decide (r12=0) then (if decide (r10.1=[]) then (z28 r2 r8 r10 r12 true r8.2.L r8.2.at_) else ((z1o r8.2 2).bind fun (r24:(Bool×z0d))=>z28 r2 r8 r10 r12 r24.1 r24.2.L r24.2.at_)) else (z28 r2 r8 r10 r12 false r8.2.L r8.2.at_))
noncomputable def z81 (v1:(List Int)):Option (Bool):=
 (z6j (z0d.mk v1 0)).bind fun (r2:((List z0g)×z0d))=>(z62 r2.2).bind fun (r4:(z0e×z0d))=>(z5q r4.2).bind fun (r6:(Int×z0d))=>(z5q r6.2).bind fun (r8:(Int×z0d))=>(y2t r2.1 r4.1 r6.1).bind fun (r10:(Bs×Int))=>(z7c r2.1).bind fun (r12:(Int))=>if decide (r12=0) then ((z8n r2.1 r4.1 r6.1).bind fun (r15:(Bs×Int))=>z4a r2 r8 r10 r12 r15.1 r15.2) else (z4a r2 r8 r10 r12 [] r12)
end Go.Proofs.YtkckjgkfljgjpaaGreatDoor
