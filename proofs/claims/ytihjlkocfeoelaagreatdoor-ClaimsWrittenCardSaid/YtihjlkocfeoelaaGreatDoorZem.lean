/- Plain models of functions. Printed by a program. -/
import Derived.Test.YtihjlkocfeoelaaGreatDoorMc
import Derived.Test.YtihjlkocfeoelaaGreatDoorMl
namespace Go.Proofs.YtihjlkocfeoelaaGreatDoor
set_option linter.unusedVariables false
set_option maxRecDepth 20000
structure z0d where
 L:(List Int)
 at_:Int
structure z0f where
 Id:Bs
 Subject:Bs
 Issuer:Bs
 Parent:Bs
 Audience:(List Bs)
 Scopes:(List Bs)
 From:Int
 To:Int
structure z0g where
 lines_:(List Bs)
 ended_:Bool
 at_:Int
 bad_:Bool
def z39 (x:Int):Bool:=decide (x=0) || decide (x=1) || decide (x=2) || decide (x=3)
def y5q (c:z0f) (x:Int):Bs:=if x=0 then c.Id else if x=1 then c.Subject else if x=2 then c.Issuer else if x=3 then c.Parent else []
def z7b (c:z0f) (x:Int) (y:Bs):z0f:=if x=0 then z0f.mk y c.Subject c.Issuer c.Parent c.Audience c.Scopes c.From c.To else if x=1 then z0f.mk c.Id y c.Issuer c.Parent c.Audience c.Scopes c.From c.To else if x=2 then z0f.mk c.Id c.Subject y c.Parent c.Audience c.Scopes c.From c.To else if x=3 then z0f.mk c.Id c.Subject c.Issuer y c.Audience c.Scopes c.From c.To else c
noncomputable def z5x (x6:Int):Option (Int):=
 some x6
noncomputable def z5m (x1:Int) (n2:Int):Option (Int):=
 if decide (n2 < 1) then some 0 else (if n2≠0 then (if decide ((Int.tmod x1 n2) < 0) then (z5x (wr ((Int.tmod x1 n2)+n2))) else (z5x (Int.tmod x1 n2))) else none)
noncomputable def z08 (s1:z0d) (n2:Int):Option (Int×z0d):=
 if decide ((s1.L.length:Int)=0) then ((z5m (wr ((wr (s1.at_+1)) * 7919)) n2).bind fun (r4:(Int))=>some (r4,(z0d.mk s1.L (wr (s1.at_+1))))) else (if (s1.L.length:Int)≠0 then (if ((0:Int)≤(wr ((wr (s1.at_+1)) - 1))∧(wr ((wr (s1.at_+1)) - 1))≤9223372036854775807)∧(0:Int) < (s1.L.length:Int) then ((at? s1.L (Int.tmod (wr ((wr (s1.at_+1)) - 1)) (s1.L.length:Int))).bind fun (x8:Int)=>(z5m x8 1073741824).bind fun (r10:(Int))=>(z5m (wr (r10+(wr (((wr ((wr (s1.at_+1)) - 1)) / (s1.L.length:Int)) * (wr (7919+(Int.tmod (wr ((wr (s1.at_+1)) - 1)) (s1.L.length:Int)))))))) n2).bind fun (r12:(Int))=>some (r12,(z0d.mk s1.L (wr (s1.at_+1))))) else none) else none)
noncomputable def z03 (s1:z0d) (l2:(List Bs)):Option (Bs×z0d):=
 (z08 s1 (l2.length:Int)).bind fun (r3:(Int×z0d))=>(at? l2 r3.1).bind fun (x5:Bs)=>some (x5,r3.2)
noncomputable def z30 (s1:z0d) (low2:Int) (high3:Int):Option (Int×z0d):=
 if decide (high3 < low2) then (some (low2,s1)) else ((z08 s1 (wr ((wr (high3 - low2))+1))).bind fun (r5:(Int×z0d))=>some (wr (low2+r5.1),r5.2))
noncomputable def z13 (k7:Nat) (c4:(List Int)) (c5:Int) (l6:(List Bs)):Option (((List Int)×Int×(List Bs)) ⊕ ((List Bs)×z0d)):=
 (z03 (z0d.mk c4 c5) ([[97],[97,58,42],[97,58,98],[97,58,98,58,42],[97,58,98,58,99],[98],[98,58,42],[98,58,99],[42]])).bind fun (r11:(Bs×z0d))=>if l6.length+1≤1000000000 then (some (.inl (r11.2.L,r11.2.at_,(l6++[r11.1])))) else none
noncomputable def z22 (c4:(List Int)) (c5:Int) (l6:(List Bs)):Option ((List Bs)×z0d):=
 some (l6,(z0d.mk c4 c5))
noncomputable def z1m (s1:z0d):Option ((List Bs)×z0d):=
 (z30 s1 0 4).bind fun (r2:(Int×z0d))=>if r2.1≤1000000000 then rng (fun (k:Nat) (s:(List Int)×Int×(List Bs))=>z13 k s.1 s.2.1 s.2.2) (fun (s:(List Int)×Int×(List Bs))=>z22 s.1 s.2.1 s.2.2) r2.1.toNat 0 (r2.2.L,r2.2.at_,[]) else none
noncomputable def z4a (p1:Bs→Option (Bool)) (k2:Nat) (x5:Bs):Option (Unit ⊕ (Int)):=
 (p1 x5).bind fun (r8:Bool)=>if r8 then (some (.inr (k2:Int))) else (some (.inl ()))
noncomputable def z4b:Option (Int):=
 some (-1)
noncomputable def z25 (s1:(List Bs)) (p1:Bs→Option (Bool)):Option (Int):=
 if s1.length≤1000000000 then forL (fun (k:Nat) (x:Bs) (s:Unit)=>z4a p1 k x) (fun (s:Unit)=>z4b) 0 s1 () else none
noncomputable def z1a (s1:(List Bs)) (p1:Bs→Option (Bool)):Option (Bool):=
 (z25 s1 p1).bind fun (r2:(Int))=>some (decide (0≤r2))
noncomputable def z7l (a1:Bs) (b2:Bs):Option (Bool):=
 (z4g a1 [42]).bind fun (r3:(Bs×Bool))=>if r3.2 then ((z50 b2 r3.1).bind fun (r6:(Bool))=>some r6) else (some (decide (a1=b2)))
noncomputable def z4n (v8:Bool):Option (Bool):=
 some v8
noncomputable def z5r (o1:Bs) (c2:Bs):Option (Bool):=
 if decide (o1≠c2) then ((z7l o1 c2).bind fun (r5:(Bool))=>z4n r5) else (z4n false)
noncomputable def z48 (out17:(List Bs)):Option ((List Bs) ⊕ ((List Bs))):=
 some (.inl out17)
noncomputable def z62 (l1:(List Bs)) (k3:Nat) (x6:Bs) (l2:(List Bs)):Option ((List Bs) ⊕ ((List Bs))):=
 (z1a l1 (fun (a0:Bs)=>z5r a0 x6)).bind fun (r13:(Bool))=>if !r13 then (if l2.length+1≤1000000000 then (z48 (l2++[x6])) else none) else (z48 l2)
noncomputable def z63 (l2:(List Bs)):Option ((List Bs)):=
 (z3m l2).bind fun (r7:(List Bs))=>(z26 r7).bind fun (r9:((List Bs)))=>some r9
noncomputable def z5i (l1:(List Bs)):Option ((List Bs)):=
 if l1.length≤1000000000 then forL (fun (k:Nat) (x:Bs) (s:(List Bs))=>z62 l1 k x s) (fun (s:(List Bs))=>z63 s) 0 l1 [] else none
noncomputable def z2n (s1:z0d) (l2:(List Int)):Option (Int×z0d):=
 (z08 s1 (l2.length:Int)).bind fun (r3:(Int×z0d))=>(at? l2 r3.1).bind fun (x5:Int)=>some (x5,r3.2)
noncomputable def z1n (s1:z0d):Option (z0f×z0d):=
 (z03 s1 ([[116,49],[116,49],[116,50],[116,51]])).bind fun (r2:(Bs×z0d))=>(z03 r2.2 ([[97,110,110],[98,111,98]])).bind fun (r4:(Bs×z0d))=>(z03 r4.2 ([[103,97,116,101],[103,97,116,101],[103,97,116,101],[111,116,104,101,114]])).bind fun (r6:(Bs×z0d))=>(z03 r6.2 ([[],[],[],[116,48],[116,50]])).bind fun (r8:(Bs×z0d))=>(z08 r8.2 5).bind fun (r10:(Int×z0d))=>(at? ([[],[],[[115,104,111,112]],[[109,97,112,115],[115,104,111,112]],[[109,97,112,115]]]) r10.1).bind fun (x12:(List Bs))=>(z1m r10.2).bind fun (r14:((List Bs)×z0d))=>(z5i r14.1).bind fun (r16:((List Bs)))=>(z2n r14.2 [0,50,100]).bind fun (r18:(Int×z0d))=>(z2n r18.2 [1,50,100,200]).bind fun (r20:(Int×z0d))=>some ((z0f.mk r2.1 r4.1 r6.1 r8.1 x12 r16 r18.1 (wr (r18.1+r20.1))),r20.2)
noncomputable def z1o (s1:z0d) (n2:Int):Option (Bool×z0d):=
 (z08 s1 n2).bind fun (r3:(Int×z0d))=>some (decide (r3.1=0),r3.2)
noncomputable def z4s (s1:z0d):Option (Bs×z0d):=
 (z1o s1 25).bind fun (r2:(Bool×z0d))=>if r2.1 then ((z66 [97,58] 10).bind fun (r5:(Bs))=>if r5.length+[97].length≤1000000000 then ((z03 r2.2 ([[],[97,58,42,58,98],[65],[97,58,58,98],[97,58],[42,42],[97,42],(r5++[97])])).bind fun (r8:(Bs×z0d))=>some (r8.1,r8.2)) else none) else ((z03 r2.2 ([[42],[97],[97,58,42],[97,58,98],[97,58,98,58,42],[97,58,98,58,99],[98],[98,58,42],[98,58,99],[99]])).bind fun (r10:(Bs×z0d))=>some (r10.1,r10.2))
noncomputable def z3l (out17:(List Bs)) (c18:(List Int)) (c19:Int):Option ((List Bs)×z0d):=
 some (out17,(z0d.mk c18 c19))
noncomputable def z2g (out10:(List Bs)) (c11:(List Int)) (c12:Int):Option ((List Bs)×z0d):=
 (z1o (z0d.mk c11 c12) 60).bind fun (r13:(Bool×z0d))=>if r13.1 then (if 51≤1000000000 then (z3l (List.replicate 51 []) r13.2.L r13.2.at_) else none) else (z3l out10 r13.2.L r13.2.at_)
noncomputable def z4k (s1:z0d):Option ((List Bs)×z0d):=
 (z1m s1).bind fun (r2:((List Bs)×z0d))=>(z1o r2.2 6).bind fun (r4:(Bool×z0d))=>if r4.1 then ((z4s r4.2).bind fun (r7:(Bs×z0d))=>if r2.1.length+1≤1000000000 then (z2g (r2.1++[r7.1]) r7.2.L r7.2.at_) else none) else (z2g r2.1 r4.2.L r4.2.at_)
noncomputable def z4l (s1:z0d) (low2:Int) (high3:Int):Option (Int×z0d):=
 (z1o s1 12).bind fun (r4:(Bool×z0d))=>if r4.1 then ((z2n r4.2 [wr (low2 - 1),wr (high3+1),low2,high3,(-1099511627776),1099511627776]).bind fun (r7:(Int×z0d))=>some (r7.1,r7.2)) else ((z30 r4.2 low2 high3).bind fun (r9:(Int×z0d))=>some (r9.1,r9.2))
noncomputable def z1j (c31:(List Int)) (c32:Int) (c33:Bs) (c34:Bs) (c35:Bs) (c36:Bs) (c37:(List Bs)) (c38:(List Bs)) (c39:Int) (c40:Int):Option (z0f×z0d):=
 some ((z0f.mk c33 c34 c35 c36 c37 c38 c39 c40),(z0d.mk c31 c32))
noncomputable def z4m (s1:z0d):Option (z0f×z0d):=
 (z1n s1).bind fun (r2:(z0f×z0d))=>(z1o r2.2 8).bind fun (r4:(Bool×z0d))=>if r4.1 then ((z08 r4.2 5).bind fun (r7:(Int×z0d))=>if decide (r7.1=0) then ((z03 r7.2 ([[],[65],[116,49]])).bind fun (r10:(Bs×z0d))=>(z03 r10.2 ([[97,110,110],[]])).bind fun (r12:(Bs×z0d))=>z1j r12.2.L r12.2.at_ r10.1 r12.1 r2.1.Issuer r2.1.Parent r2.1.Audience r2.1.Scopes r2.1.From r2.1.To) else (if decide (r7.1=1) then ((z03 r7.2 ([[],[103,97,116,101]])).bind fun (r15:(Bs×z0d))=>(z03 r15.2 ([[65],[116,48]])).bind fun (r17:(Bs×z0d))=>z1j r17.2.L r17.2.at_ r2.1.Id r2.1.Subject r15.1 r17.1 r2.1.Audience r2.1.Scopes r2.1.From r2.1.To) else (if decide (r7.1=2) then ((z08 r7.2 3).bind fun (r20:(Int×z0d))=>(at? ([[[115,104,111,112],[109,97,112,115]],[[]],[[97],[97]]]) r20.1).bind fun (x22:(List Bs))=>z1j r20.2.L r20.2.at_ r2.1.Id r2.1.Subject r2.1.Issuer r2.1.Parent x22 r2.1.Scopes r2.1.From r2.1.To) else (if decide (r7.1=3) then ((z4k r7.2).bind fun (r25:((List Bs)×z0d))=>z1j r25.2.L r25.2.at_ r2.1.Id r2.1.Subject r2.1.Issuer r2.1.Parent r2.1.Audience r25.1 r2.1.From r2.1.To) else ((z4l r7.2 0 300).bind fun (r27:(Int×z0d))=>(z4l r27.2 0 300).bind fun (r29:(Int×z0d))=>z1j r29.2.L r29.2.at_ r2.1.Id r2.1.Subject r2.1.Issuer r2.1.Parent r2.1.Audience r2.1.Scopes r27.1 r29.1))))) else (z1j r4.2.L r4.2.at_ r2.1.Id r2.1.Subject r2.1.Issuer r2.1.Parent r2.1.Audience r2.1.Scopes r2.1.From r2.1.To)
noncomputable def z28 (c1:z0f) (l20:(List Bs)):Option (Bs):=
 (z4o c1.From).bind fun (r21:(Bs))=>if [116,105,109,101,32].length+r21.length≤1000000000 then (if ([116,105,109,101,32]++r21).length+[32].length≤1000000000 then ((z4o c1.To).bind fun (r25:(Bs))=>if (([116,105,109,101,32]++r21)++[32]).length+r25.length≤1000000000 then (if l20.length+1≤1000000000 then ((z3k (l20++([((([116,105,109,101,32]++r21)++[32])++r25)])) [10]).bind fun (r29:(Bs))=>if r29.length+[10].length≤1000000000 then (some (r29++[10])) else none) else none) else none) else none) else none
noncomputable def z29 (c1:z0f) (l14:(List Bs)):Option (Bs):=
 if decide (0 < (c1.Scopes.length:Int)) then ((z3k c1.Scopes [32]).bind fun (r16:(Bs))=>if [109,97,121,32].length+r16.length≤1000000000 then (if l14.length+1≤1000000000 then (z28 c1 (l14++([([109,97,121,32]++r16)]))) else none) else none) else (z28 c1 l14)
noncomputable def z3a (c1:z0f) (l8:(List Bs)):Option (Bs):=
 if decide (0 < (c1.Audience.length:Int)) then ((z3k c1.Audience [32]).bind fun (r10:(Bs))=>if [102,111,114,32].length+r10.length≤1000000000 then (if l8.length+1≤1000000000 then (z29 c1 (l8++([([102,111,114,32]++r10)]))) else none) else none) else (z29 c1 l8)
noncomputable def z38 (c1:z0f):Option (Bs):=
 if [105,100,32].length+c1.Id.length≤1000000000 then (if [115,117,98,106,101,99,116,32].length+c1.Subject.length≤1000000000 then (if [105,115,115,117,101,114,32].length+c1.Issuer.length≤1000000000 then (if decide (c1.Parent≠[]) then (if [112,97,114,101,110,116,32].length+c1.Parent.length≤1000000000 then (if ([([105,100,32]++c1.Id),([115,117,98,106,101,99,116,32]++c1.Subject),([105,115,115,117,101,114,32]++c1.Issuer)]:(List Bs)).length+1≤1000000000 then (z3a c1 (([([105,100,32]++c1.Id),([115,117,98,106,101,99,116,32]++c1.Subject),([105,115,115,117,101,114,32]++c1.Issuer)]:(List Bs))++([([112,97,114,101,110,116,32]++c1.Parent)]))) else none) else none) else (z3a c1 ([([105,100,32]++c1.Id),([115,117,98,106,101,99,116,32]++c1.Subject),([105,115,115,117,101,114,32]++c1.Issuer)]:(List Bs)))) else none) else none) else none
noncomputable def z4c (s1:z0d) (t2:Bs) (v3:Bs):Option (Bs×z0d):=
 if ((decide (t2=[])) || (decide (v3=[]))) then (some (v3,s1)) else ((z08 s1 (t2.length:Int)).bind fun (r5:(Int×z0d))=>(z08 r5.2 (v3.length:Int)).bind fun (r7:(Int×z0d))=>(at? v3 r7.1).bind fun (x9:UInt8)=>(z08 r7.2 3).bind fun (r11:(Int×z0d))=>if decide (r11.1=0) then ((sub? t2 0 r5.1).bind fun (l14:Bs)=>if l14.length+(encL (IntKind.wrap .i32 (x9.toNat:Int))).length≤1000000000 then ((sub? t2 (wr (r5.1+1)) (t2.length:Int)).bind fun (l17:Bs)=>if (l14++(encL (IntKind.wrap .i32 (x9.toNat:Int)))).length+l17.length≤1000000000 then (some (((l14++(encL (IntKind.wrap .i32 (x9.toNat:Int))))++l17),r11.2)) else none) else none) else (if decide (r11.1=1) then ((sub? t2 0 r5.1).bind fun (l21:Bs)=>if l21.length+(encL (IntKind.wrap .i32 (x9.toNat:Int))).length≤1000000000 then ((sub? t2 r5.1 (t2.length:Int)).bind fun (l24:Bs)=>if (l21++(encL (IntKind.wrap .i32 (x9.toNat:Int)))).length+l24.length≤1000000000 then (some (((l21++(encL (IntKind.wrap .i32 (x9.toNat:Int))))++l24),r11.2)) else none) else none) else ((sub? t2 0 r5.1).bind fun (l27:Bs)=>(sub? t2 (wr (r5.1+1)) (t2.length:Int)).bind fun (l29:Bs)=>if l27.length+l29.length≤1000000000 then (some ((l27++l29),r11.2)) else none)))
noncomputable def z2c (t23:Bs) (c24:(List Int)) (c25:Int):Option (Bs×z0d):=
 some (t23,(z0d.mk c24 c25))
noncomputable def z4d (k11:Nat) (t8:Bs) (c9:(List Int)) (c10:Int):Option ((Bs×(List Int)×Int) ⊕ (Bs×z0d)):=
 (z4c (z0d.mk c9 c10) t8 [32,10,105,116,48,115,58]).bind fun (r27:(Bs×z0d))=>some (.inl (r27.1,r27.2.L,r27.2.at_))
noncomputable def z4e (t8:Bs) (c9:(List Int)) (c10:Int):Option (Bs×z0d):=
 (z1o (z0d.mk c9 c10) 10).bind fun (r14:(Bool×z0d))=>if r14.1 then ((z03 r14.2 ([[105,100,32,116,49,10],[116,105,109,101],[10,105,115,115,117,101,114],[115,117,98,106,101,99,116],[109,97,121]])).bind fun (r17:(Bs×z0d))=>(z03 r17.2 ([[],[102,111,114],[10,105,100],[109,97,121],[10]])).bind fun (r19:(Bs×z0d))=>(z7p t8 r17.1 r19.1 1).bind fun (r21:(Bs))=>z2c r21 r19.2.L r19.2.at_) else (z2c t8 r14.2.L r14.2.at_)
noncomputable def z3o (s1:z0d):Option (Bs×z0d):=
 (z1n s1).bind fun (r2:(z0f×z0d))=>(z38 r2.1).bind fun (r4:(Bs))=>(z2n r2.2 [0,0,1,2]).bind fun (r6:(Int×z0d))=>if r6.1≤1000000000 then rng (fun (k:Nat) (s:Bs×(List Int)×Int)=>z4d k s.1 s.2.1 s.2.2) (fun (s:Bs×(List Int)×Int)=>z4e s.1 s.2.1 s.2.2) r6.1.toNat 0 (r4,r6.2.L,r6.2.at_) else none
noncomputable def z95 (i2:Nat) (x5:UInt8):Option (Unit ⊕ (Bool)):=
 if !(((decide (97≤(x5.toNat:Int))) && (decide ((x5.toNat:Int)≤122))) || ((decide (0 < (i2:Int))) && ((((decide (48≤(x5.toNat:Int))) && (decide ((x5.toNat:Int)≤57))) || (decide ((x5.toNat:Int)=45))) || (decide ((x5.toNat:Int)=95))))) then (some (.inr false)) else (some (.inl ()))
noncomputable def y05 (s1:Bs):Option (Bool):=
 some ((decide (s1≠[])) && (decide ((s1.length:Int)≤40)))
noncomputable def z6i (s1:Bs):Option (Bool):=
 if s1.length≤1000000000 then forL (fun (k:Nat) (x:UInt8) (s:Unit)=>z95 k x) (fun (s:Unit)=>y05 s1) 0 s1 () else none
noncomputable def z4t (v16:Bool):Option (Unit ⊕ (Int)):=
 if v16 then (some (.inr 7)) else (some (.inl ()))
noncomputable def z7e (l1:(List Bs)) (k2:Nat) (x5:Bs):Option (Unit ⊕ (Int)):=
 (z6i x5).bind fun (r8:(Bool))=>if !r8 then (some (.inr 5)) else (if decide (0 < (k2:Int)) then ((at? l1 ((k2:Int) - 1)).bind fun (x13:Bs)=>z4t (Op.bytesLess x5 x13 || x5 == x13)) else (z4t false))
noncomputable def z8i:Option (Int):=
 some 0
noncomputable def z6s (l1:(List Bs)):Option (Int):=
 if l1.length≤1000000000 then forL (fun (k:Nat) (x:Bs) (s:Unit)=>z7e l1 k x) (fun (s:Unit)=>z8i) 0 l1 () else none
noncomputable def z74 (r2:((List Bs))) (k4:Nat) (x7:Bs):Option (Unit ⊕ (Bool)):=
 (z6i x7).bind fun (r10:(Bool))=>if ((!r10) && (!((decide (x7=[42])) && (decide ((k4:Int)=(wr ((r2.length:Int) - 1))))))) then (some (.inr false)) else (some (.inl ()))
noncomputable def z86 (r2:((List Bs))):Option (Bool):=
 some (decide ((r2.length:Int)≤10))
noncomputable def z7k (s1:Bs):Option (Bool):=
 (z2q s1 [58]).bind fun (r2:((List Bs)))=>if r2.length≤1000000000 then forL (fun (k:Nat) (x:Bs) (s:Unit)=>z74 r2 k x) (fun (s:Unit)=>z86 r2) 0 r2 () else none
noncomputable def z6l (k3:Nat) (x6:Bs):Option (Unit ⊕ (Int)):=
 (z7k x6).bind fun (r9:(Bool))=>if !r9 then (some (.inr 3)) else (some (.inl ()))
noncomputable def z7u:Option (Int):=
 some 0
noncomputable def z5z (l1:(List Bs)):Option (Int):=
 if decide (50 < (l1.length:Int)) then some 2 else (if l1.length≤1000000000 then forL (fun (k:Nat) (x:Bs) (s:Unit)=>z6l k x) (fun (s:Unit)=>z7u) 0 l1 () else none)
noncomputable def z8x (l1:(List Bs)):Option ((List Bs)):=
 (z6h l1).bind fun (r2:((List Bs)))=>(z3m r2).bind fun (r4:(List Bs))=>(z26 r4).bind fun (r6:((List Bs)))=>some r6
noncomputable def z1x (j6:Int) (i17:Int) (s18:(List Bs)):Option ((Int×Int×(List Bs)) ⊕ ((List Bs))):=
 some (.inl (i17,wr (j6+1),s18))
noncomputable def z2o (i19:Int) (s20:(List Bs)):Option ((List Bs)):=
 if (0:Int)≤i19∧i19 < (s20.length:Int) then (if (0:Int)≤i19∧i19≤((s20.take i19.toNat++List.replicate (s20.length - i19.toNat) []).length:Int) then (some ((s20.take i19.toNat++List.replicate (s20.length - i19.toNat) []).take i19.toNat)) else none) else none
noncomputable def z36 (p1:Bs→Option (Bool)) (i5:Int) (j6:Int) (l7:(List Bs)):Option ((Int×Int×(List Bs)) ⊕ ((List Bs))):=
 if decide (j6 < (l7.length:Int)) then ((at? l7 j6).bind fun (x10:Bs)=>(p1 x10).bind fun (r12:Bool)=>if !r12 then ((at? l7 i5).bind fun (x15:Bs)=>z1x j6 (wr (i5+1)) (l7.set i5.toNat x10)) else (z1x j6 i5 l7)) else (Option.map .inr (z2o i5 l7))
noncomputable def z2w (s1:(List Bs)) (p1:Bs→Option (Bool)):Option ((List Bs)):=
 (z25 s1 p1).bind fun (r2:(Int))=>if decide (r2=(-1)) then some s1 else (iter (fun (s:Int×Int×(List Bs))=>z36 p1 s.1 s.2.1 s.2.2) (r2,wr (r2+1),s1))
noncomputable def z6p (v11:Bool):Option (Bool):=
 some v11
noncomputable def z7y (a1:Bs) (b2:Bs):Option (Bool):=
 if decide (a1=b2) then some true else ((z4g a1 [42]).bind fun (r4:(Bs×Bool))=>if r4.2 then ((z50 b2 r4.1).bind fun (r8:(Bool))=>z6p r8) else (z6p false))
noncomputable def z5h (v8:Bool):Option (Bool):=
 some v8
noncomputable def z6r (h1:Bs) (c2:Bs):Option (Bool):=
 if decide (h1≠c2) then ((z7y h1 c2).bind fun (r5:(Bool))=>z5h r5) else (z5h false)
noncomputable def z7j (s1:Bs) (c2:(List Bs)):Option (Bool):=
 (z1a c2 (fun (a0:Bs)=>z6r a0 s1)).bind fun (r3:(Bool))=>some r3
noncomputable def z8g (l1:(List Bs)):Option ((List Bs)):=
 (z8x l1).bind fun (r2:((List Bs)))=>(z6h r2).bind fun (r4:((List Bs)))=>(z2w r4 (fun (a0:Bs)=>z7j a0 r2)).bind fun (r6:((List Bs)))=>some r6
noncomputable def z3v (s2:(List Bs)) (k4:Nat) (x7:Bs):Option (Unit ⊕ (Bool)):=
 (s2[k4]?).bind fun (x10:Bs)=>if decide (x7≠x10) then (some (.inr false)) else (some (.inl ()))
noncomputable def z41:Option (Bool):=
 some true
noncomputable def z1h (s1:(List Bs)) (s2:(List Bs)):Option (Bool):=
 if decide ((s1.length:Int)≠(s2.length:Int)) then some false else (if s1.length≤1000000000 then forL (fun (k:Nat) (x:Bs) (s:Unit)=>z3v s2 k x) (fun (s:Unit)=>z41) 0 s1 () else none)
noncomputable def z15 (v1:z0f) (v22:Bool):Option (Int):=
 if v22 then some 5 else (if decide (50 < (v1.Audience.length:Int)) then some 2 else ((z6s v1.Audience).bind fun (r25:(Int))=>if decide (r25≠0) then some r25 else ((z5z v1.Scopes).bind fun (r28:(Int))=>if decide (r28≠0) then some r28 else ((z8g v1.Scopes).bind fun (r31:((List Bs)))=>(z1h v1.Scopes r31).bind fun (r33:(Bool))=>if !r33 then some 7 else (if (((decide (v1.From < 0)) || (decide (v1.To≤v1.From))) || (decide (345686400000 < v1.To))) then some 1 else some 0)))))
noncomputable def z3y (v1:z0f):Option (Int):=
 (z6i v1.Id).bind fun (r2:(Bool))=>if !r2 then (z15 v1 true) else ((z6i v1.Subject).bind fun (r6:(Bool))=>if !r6 then (z15 v1 true) else ((z6i v1.Issuer).bind fun (r10:(Bool))=>if !r10 then (z15 v1 true) else (if decide (v1.Parent≠[]) then ((z6i v1.Parent).bind fun (r16:(Bool))=>z15 v1 (!r16)) else (z15 v1 false))))
noncomputable def z23 (v1:z0f) (v29:Bs):Option (Bs×Int):=
 (z4o v1.From).bind fun (r30:(Bs))=>if [116,105,109,101,32].length+r30.length≤1000000000 then (if ([116,105,109,101,32]++r30).length+[32].length≤1000000000 then ((z4o v1.To).bind fun (r34:(Bs))=>if (([116,105,109,101,32]++r30)++[32]).length+r34.length≤1000000000 then (if ((([116,105,109,101,32]++r30)++[32])++r34).length+[10].length≤1000000000 then (if v29.length+(((([116,105,109,101,32]++r30)++[32])++r34)++[10]).length≤1000000000 then (if decide (4000 < ((v29++(((([116,105,109,101,32]++r30)++[32])++r34)++[10])).length:Int)) then (some ([],2)) else (some ((v29++(((([116,105,109,101,32]++r30)++[32])++r34)++[10])),0))) else none) else none) else none) else none) else none
noncomputable def z4f (v1:z0f) (v22:Bs):Option (Bs×Int):=
 if decide (0 < (v1.Scopes.length:Int)) then ((z3k v1.Scopes [32]).bind fun (r24:(Bs))=>if [109,97,121,32].length+r24.length≤1000000000 then (if ([109,97,121,32]++r24).length+[10].length≤1000000000 then (if v22.length+(([109,97,121,32]++r24)++[10]).length≤1000000000 then (z23 v1 (v22++(([109,97,121,32]++r24)++[10]))) else none) else none) else none) else (z23 v1 v22)
noncomputable def z3x (v1:z0f) (v15:Bs):Option (Bs×Int):=
 if decide (0 < (v1.Audience.length:Int)) then ((z3k v1.Audience [32]).bind fun (r17:(Bs))=>if [102,111,114,32].length+r17.length≤1000000000 then (if ([102,111,114,32]++r17).length+[10].length≤1000000000 then (if v15.length+(([102,111,114,32]++r17)++[10]).length≤1000000000 then (z4f v1 (v15++(([102,111,114,32]++r17)++[10]))) else none) else none) else none) else (z4f v1 v15)
noncomputable def z4r (v1:z0f):Option (Bs×Int):=
 (z3y v1).bind fun (r2:(Int))=>if decide (r2≠0) then (some ([],r2)) else (if [105,100,32].length+v1.Id.length≤1000000000 then (if ([105,100,32]++v1.Id).length+[10,115,117,98,106,101,99,116,32].length≤1000000000 then (if (([105,100,32]++v1.Id)++[10,115,117,98,106,101,99,116,32]).length+v1.Subject.length≤1000000000 then (if ((([105,100,32]++v1.Id)++[10,115,117,98,106,101,99,116,32])++v1.Subject).length+[10,105,115,115,117,101,114,32].length≤1000000000 then (if (((([105,100,32]++v1.Id)++[10,115,117,98,106,101,99,116,32])++v1.Subject)++[10,105,115,115,117,101,114,32]).length+v1.Issuer.length≤1000000000 then (if ((((([105,100,32]++v1.Id)++[10,115,117,98,106,101,99,116,32])++v1.Subject)++[10,105,115,115,117,101,114,32])++v1.Issuer).length+[10].length≤1000000000 then (if decide (v1.Parent≠[]) then (if [112,97,114,101,110,116,32].length+v1.Parent.length≤1000000000 then (if ([112,97,114,101,110,116,32]++v1.Parent).length+[10].length≤1000000000 then (if (((((([105,100,32]++v1.Id)++[10,115,117,98,106,101,99,116,32])++v1.Subject)++[10,105,115,115,117,101,114,32])++v1.Issuer)++[10]).length+(([112,97,114,101,110,116,32]++v1.Parent)++[10]).length≤1000000000 then (z3x v1 ((((((([105,100,32]++v1.Id)++[10,115,117,98,106,101,99,116,32])++v1.Subject)++[10,105,115,115,117,101,114,32])++v1.Issuer)++[10])++(([112,97,114,101,110,116,32]++v1.Parent)++[10]))) else none) else none) else none) else (z3x v1 (((((([105,100,32]++v1.Id)++[10,115,117,98,106,101,99,116,32])++v1.Subject)++[10,105,115,115,117,101,114,32])++v1.Issuer)++[10]))) else none) else none) else none) else none) else none) else none)
noncomputable def z9f (n1:Int) (low2:Int) (high3:Int):Option (Bool):=
 some ((decide (low2≤n1)) && (decide (n1≤high3)))
noncomputable def z77 (some2:Bs) (k3:Nat) (x6:UInt8):Option (Unit ⊕ (Bool)):=
 (z79 some2 (x6.toNat:Int)).bind fun (r9:(Int))=>if decide (r9 < 0) then (some (.inr false)) else (some (.inl ()))
noncomputable def z9a:Option (Bool):=
 some true
noncomputable def z5d (s1:Bs) (some2:Bs):Option (Bool):=
 if s1.length≤1000000000 then forL (fun (k:Nat) (x:UInt8) (s:Unit)=>z77 some2 k x) (fun (s:Unit)=>z9a) 0 s1 () else none
noncomputable def z55 (v16:Bool):Option (Bool):=
 some v16
noncomputable def z4p (s1:Bs):Option (Bool):=
 (z9f (s1.length:Int) 1 40).bind fun (r2:(Bool))=>if r2 then ((sub? s1 0 1).bind fun (l6:Bs)=>(z5d l6 [97,98,99,100,101,102,103,104,105,106,107,108,109,110,111,112,113,114,115,116,117,118,119,120,121,122]).bind fun (r8:(Bool))=>if r8 then ((z5d s1 [97,98,99,100,101,102,103,104,105,106,107,108,109,110,111,112,113,114,115,116,117,118,119,120,121,122,48,49,50,51,52,53,54,55,56,57,45,95]).bind fun (r12:(Bool))=>z55 r12) else (z55 false)) else (z55 false)
noncomputable def z7r (r2:((List Bs))) (k4:Nat) (x7:Bs):Option (Unit ⊕ (Bool)):=
 (z4p x7).bind fun (r10:(Bool))=>if ((!r10) && ((decide (x7≠[42])) || (decide ((k4:Int) < (wr ((r2.length:Int) - 1)))))) then (some (.inr false)) else (some (.inl ()))
noncomputable def z8r (r2:((List Bs))):Option (Bool):=
 some (decide ((r2.length:Int)≤10))
noncomputable def z67 (s1:Bs):Option (Bool):=
 (z2q s1 [58]).bind fun (r2:((List Bs)))=>if r2.length≤1000000000 then forL (fun (k:Nat) (x:Bs) (s:Unit)=>z7r r2 k x) (fun (s:Unit)=>z8r r2) 0 r2 () else none
noncomputable def z5t (k3:Nat) (x6:Bs):Option (Unit ⊕ (Int)):=
 (z67 x6).bind fun (r9:(Bool))=>if !r9 then (some (.inr 3)) else (some (.inl ()))
noncomputable def z61:Option (Int):=
 some 0
noncomputable def z44 (l1:(List Bs)):Option (Int):=
 if decide (50 < (l1.length:Int)) then some 2 else (if l1.length≤1000000000 then forL (fun (k:Nat) (x:Bs) (s:Unit)=>z5t k x) (fun (s:Unit)=>z61) 0 l1 () else none)
noncomputable def z3b (v48:Bool):Option (Unit ⊕ (Int)):=
 if v48 then (some (.inr 7)) else (some (.inl ()))
noncomputable def z5u (v1:z0f) (k25:Nat) (x28:Bs):Option (Unit ⊕ (Int)):=
 (z4p x28).bind fun (r40:(Bool))=>if !r40 then (some (.inr 5)) else (if decide (0 < (k25:Int)) then ((at? v1.Audience ((k25:Int) - 1)).bind fun (x45:Bs)=>z3b (Op.bytesLess x28 x45 || x28 == x45)) else (z3b false))
noncomputable def z4u (v1:z0f):Option (Int):=
 (z44 v1.Scopes).bind fun (r29:(Int))=>if decide (r29≠0) then some r29 else ((z5i v1.Scopes).bind fun (r32:((List Bs)))=>(z1h r32 v1.Scopes).bind fun (r34:(Bool))=>if !r34 then some 7 else (if (((decide (v1.From < 0)) || (decide (v1.To≤v1.From))) || (decide (345686400000 < v1.To))) then some 1 else some 0))
noncomputable def z1s (v1:z0f) (v22:Bool):Option (Int):=
 if v22 then some 5 else (if decide (50 < (v1.Audience.length:Int)) then some 2 else (if v1.Audience.length≤1000000000 then forL (fun (k:Nat) (x:Bs) (s:Unit)=>z5u v1 k x) (fun (s:Unit)=>z4u v1) 0 v1.Audience () else none))
noncomputable def z2m (v1:z0f):Option (Int):=
 (z4p v1.Id).bind fun (r2:(Bool))=>if !r2 then (z1s v1 true) else ((z4p v1.Subject).bind fun (r6:(Bool))=>if !r6 then (z1s v1 true) else ((z4p v1.Issuer).bind fun (r10:(Bool))=>if !r10 then (z1s v1 true) else (if decide (v1.Parent≠[]) then ((z4p v1.Parent).bind fun (r16:(Bool))=>z1s v1 (!r16)) else (z1s v1 false))))
noncomputable def z4j (c1:z0f):Option (Bs×Int):=
 (z2m c1).bind fun (r2:(Int))=>if decide (r2≠0) then (some ([],r2)) else ((z38 c1).bind fun (r5:(Bs))=>if decide (4000 < (r5.length:Int)) then (some ([],2)) else (some (r5,0)))
noncomputable def z9v (s1:Bs):Option ((List Bs)×Bool):=
 (z2q s1 [10]).bind fun (r2:((List Bs)))=>(at? r2 (wr ((r2.length:Int) - 1))).bind fun (x4:Bs)=>if decide (x4=[]) then ((sub? r2 0 (wr ((r2.length:Int) - 1))).bind fun (l7:(List Bs))=>some (l7,true)) else (some (r2,false))
noncomputable def z4z (v2:Bs) (k3:Nat) (x6:Bs):Option (Unit ⊕ (Int)):=
 if decide (v2=x6) then (some (.inr (k3:Int))) else (some (.inl ()))
noncomputable def z40:Option (Int):=
 some (-1)
noncomputable def z11 (s1:(List Bs)) (v2:Bs):Option (Int):=
 if s1.length≤1000000000 then forL (fun (k:Nat) (x:Bs) (s:Unit)=>z4z v2 k x) (fun (s:Unit)=>z40) 0 s1 () else none
noncomputable def z17 (s1:(List Bs)) (v2:Bs):Option (Bool):=
 (z11 s1 v2).bind fun (r3:(Int))=>some (decide (0≤r3))
noncomputable def z9u (s1:Bs):Option ((List Bs)×Bool):=
 (z2q s1 [32]).bind fun (r2:((List Bs)))=>(z17 r2 []).bind fun (r4:(Bool))=>some (r2,!r4)
noncomputable def z0x (s1:z0g) (v2:Bs) (v3:Bool):Option ((List Bs)×z0g):=
 if s1.bad_ then (some ([],s1)) else (if decide (s1.at_=(s1.lines_.length:Int)) then (some ([],(z0g.mk s1.lines_ s1.ended_ s1.at_ v3))) else ((at? s1.lines_ s1.at_).bind fun (x6:Bs)=>(z6f x6 [32]).bind fun (r8:(Bs×Bs×Bool))=>if decide (r8.1≠v2) then (some ([],(z0g.mk s1.lines_ s1.ended_ s1.at_ v3))) else ((z9u r8.2.1).bind fun (r11:((List Bs)×Bool))=>if ((!r11.2) || ((!s1.ended_) && (decide (s1.at_=(wr ((s1.lines_.length:Int) - 1)))))) then (some ([],(z0g.mk s1.lines_ s1.ended_ s1.at_ true))) else (some (r11.1,(z0g.mk s1.lines_ s1.ended_ (wr (s1.at_+1)) s1.bad_))))))
noncomputable def z3j (r4:((List Bs)×z0g)) (c7:Int) (c8:Bool):Option (Bs×z0g):=
 if decide ((r4.1.length:Int)≠1) then (some ([],(z0g.mk r4.2.lines_ r4.2.ended_ c7 c8))) else ((r4.1[0]?).bind fun (x10:Bs)=>some (x10,(z0g.mk r4.2.lines_ r4.2.ended_ c7 c8)))
noncomputable def z0v (s1:z0g) (word2:Bs) (must3:Bool):Option (Bs×z0g):=
 (z0x s1 word2 must3).bind fun (r4:((List Bs)×z0g))=>if decide (1 < (r4.1.length:Int)) then (z3j r4 (wr (r4.2.at_ - 1)) true) else (z3j r4 r4.2.at_ r4.2.bad_)
noncomputable def z0y (c1:Int):Option (Int):=
 some (or_ .u8 c1 32)
noncomputable def z1y (v47:Int) (v85:Int):Option ((Int×Int) ⊕ (Bool)):=
 some (.inl (v85,wr (v47+1)))
noncomputable def z05 (v14:Bs) (v46:Int) (v47:Int) (v78:Bool):Option ((Int×Int) ⊕ (Bool)):=
 if v78 then (z1y v47 48) else ((at? v14 v47).bind fun (x80:UInt8)=>if decide ((x80.toNat:Int)=95) then (if decide (v46≠48) then (some (.inr false)) else (z1y v47 95)) else (if decide (v46=95) then (some (.inr false)) else (z1y v47 33)))
noncomputable def z3w (v86:Int):Option (Bool):=
 some (decide (v86≠95))
noncomputable def z42 (v14:Bs) (v45:Bool) (v46:Int) (v47:Int):Option ((Int×Int) ⊕ (Bool)):=
 if decide (v47 < (v14.length:Int)) then ((at? v14 v47).bind fun (x50:UInt8)=>if decide (48≤(x50.toNat:Int)) then (if decide ((x50.toNat:Int)≤57) then (z05 v14 v46 v47 true) else (if v45 then ((z0y (x50.toNat:Int)).bind fun (r58:(Int))=>if decide (97≤r58) then ((z0y (x50.toNat:Int)).bind fun (r62:(Int))=>z05 v14 v46 v47 (decide (r62≤102))) else (z05 v14 v46 v47 false)) else (z05 v14 v46 v47 false))) else (if v45 then ((z0y (x50.toNat:Int)).bind fun (r70:(Int))=>if decide (97≤r70) then ((z0y (x50.toNat:Int)).bind fun (r74:(Int))=>z05 v14 v46 v47 (decide (r74≤102))) else (z05 v14 v46 v47 false)) else (z05 v14 v46 v47 false))) else (Option.map .inr (z3w v46))
noncomputable def z2k (v14:Bs) (v43:Int) (v44:Int) (v45:Bool):Option (Bool):=
 iter (fun (s:Int×Int)=>z42 v14 v45 s.1 s.2) (v43,v44)
noncomputable def z1d (v14:Bs) (v37:Bool):Option (Bool):=
 if v37 then ((v14[1]?).bind fun (x39:UInt8)=>(z0y (x39.toNat:Int)).bind fun (r41:(Int))=>z2k v14 48 2 (decide (r41=120))) else (z2k v14 94 0 false)
noncomputable def z2l (v14:Bs):Option (Bool):=
 if decide (2≤(v14.length:Int)) then ((v14[0]?).bind fun (x17:UInt8)=>if decide ((x17.toNat:Int)=48) then ((v14[1]?).bind fun (x21:UInt8)=>(z0y (x21.toNat:Int)).bind fun (r23:(Int))=>if decide (r23=98) then (z1d v14 true) else ((z0y (x21.toNat:Int)).bind fun (r27:(Int))=>if decide (r27=111) then (z1d v14 true) else ((z0y (x21.toNat:Int)).bind fun (r31:(Int))=>z1d v14 (decide (r31=120))))) else (z1d v14 false)) else (z1d v14 false)
noncomputable def z1z (v1:Bs) (v10:Bool):Option (Bool):=
 if v10 then ((sub? v1 1 (v1.length:Int)).bind fun (l12:Bs)=>z2l l12) else (z2l v1)
noncomputable def z47 (v1:Bs):Option (Bool):=
 if decide (1≤(v1.length:Int)) then ((v1[0]?).bind fun (x4:UInt8)=>if decide ((x4.toNat:Int)=45) then (z1z v1 true) else (z1z v1 (decide ((x4.toNat:Int)=43)))) else (z1z v1 false)
noncomputable def z3d (v87:Bool) (v88:Int):Option ((Bool×Int) ⊕ (Int×Int)):=
 some (.inl (v87,v88))
noncomputable def z2z (v46:Int) (v49:Int) (v53:Int) (v55:Bool) (v56:Int) (v83:Int):Option ((Bool×Int) ⊕ (Int×Int)):=
 if decide ((IntKind.wrap .u8 v46)≤v83) then (some (.inr (0,2))) else (if decide (v53≤v56) then (some (.inr (IntKind.wrap .u64 ((shl_ .u64 1 (IntKind.wrap .u64 v49)) - 1),1))) else (if ((decide ((IntKind.wrap .u64 ((IntKind.wrap .u64 (v56 * (IntKind.wrap .u64 v46)))+(IntKind.wrap .u64 v83))) < (IntKind.wrap .u64 (v56 * (IntKind.wrap .u64 v46))))) || (decide ((IntKind.wrap .u64 ((shl_ .u64 1 (IntKind.wrap .u64 v49)) - 1)) < (IntKind.wrap .u64 ((IntKind.wrap .u64 (v56 * (IntKind.wrap .u64 v46)))+(IntKind.wrap .u64 v83)))))) then (some (.inr (IntKind.wrap .u64 ((shl_ .u64 1 (IntKind.wrap .u64 v49)) - 1),1))) else (z3d v55 (IntKind.wrap .u64 ((IntKind.wrap .u64 (v56 * (IntKind.wrap .u64 v46)))+(IntKind.wrap .u64 v83))))))
noncomputable def z2y (v46:Int) (v49:Int) (v53:Int) (v55:Bool) (v56:Int) (x60:Int) (v79:Bool):Option ((Bool×Int) ⊕ (Int×Int)):=
 if v79 then ((z0y x60).bind fun (r81:(Int))=>z2z v46 v49 v53 v55 v56 (IntKind.wrap .u8 ((IntKind.wrap .u8 (r81 - 97))+10))) else (some (.inr (0,2)))
noncomputable def z5n (v2:Int) (v46:Int) (v49:Int) (v53:Int) (k57:Nat) (x60:Int) (v55:Bool) (v56:Int):Option ((Bool×Int) ⊕ (Int×Int)):=
 if ((decide (x60=95)) && (decide (v2=0))) then (z3d true v56) else (if ((decide (48≤x60)) && (decide (x60≤57))) then (z2z v46 v49 v53 v55 v56 (IntKind.wrap .u8 (x60 - 48))) else ((z0y x60).bind fun (r72:(Int))=>if decide (97≤r72) then ((z0y x60).bind fun (r76:(Int))=>z2y v46 v49 v53 v55 v56 x60 (decide (r76≤122))) else (z2y v46 v49 v53 v55 v56 x60 false)))
noncomputable def z3e (v56:Int) (v66:Bool):Option (Int×Int):=
 if v66 then (some (0,2)) else (some (v56,0))
noncomputable def z5o (v1:Bs) (v55:Bool) (v56:Int):Option (Int×Int):=
 if v55 then ((z47 v1).bind fun (r63:(Bool))=>z3e v56 (!r63)) else (z3e v56 false)
noncomputable def z2b (v1:Bs) (v2:Int) (v45:Bs) (v46:Int) (v49:Int) (v53:Int):Option (Int×Int):=
 if (0:Int)≤(IntKind.wrap .u64 v49) then (if (z94 v45).length≤1000000000 then forL (fun (k:Nat) (x:Int) (s:Bool×Int)=>z5n v2 v46 v49 v53 k x s.1 s.2) (fun (s:Bool×Int)=>z5o v1 s.1 s.2) 0 (z94 v45) (false,0) else none) else none
noncomputable def z3f (v1:Bs) (v2:Int) (v45:Bs) (v46:Int) (v49:Int):Option (Int×Int):=
 if decide (v46=10) then (z2b v1 v2 v45 v46 v49 1844674407370955162) else (if decide (v46=16) then (z2b v1 v2 v45 v46 v49 1152921504606846976) else (if (IntKind.wrap .u64 v46)≠0 then (z2b v1 v2 v45 v46 v49 (IntKind.wrap .u64 ((IntKind.wrap .u64 (Int.tdiv 18446744073709551615 (IntKind.wrap .u64 v46)))+1))) else none))
noncomputable def z1f (v1:Bs) (v2:Int) (v3:Int) (v45:Bs) (v46:Int):Option (Int×Int):=
 if decide (v3=0) then (z3f v1 v2 v45 v46 64) else (if ((decide (v3 < 0)) || (decide (64 < v3))) then (some (0,4)) else (z3f v1 v2 v45 v46 v3))
noncomputable def z3g (v1:Bs) (v2:Int) (v3:Int) (v39:Bool):Option (Int×Int):=
 if v39 then ((sub? v1 2 (v1.length:Int)).bind fun (l41:Bs)=>z1f v1 v2 v3 l41 16) else ((sub? v1 1 (v1.length:Int)).bind fun (l43:Bs)=>z1f v1 v2 v3 l43 8)
noncomputable def z3h (v1:Bs) (v2:Int) (v3:Int) (v28:Bool):Option (Int×Int):=
 if v28 then ((sub? v1 2 (v1.length:Int)).bind fun (l30:Bs)=>z1f v1 v2 v3 l30 8) else (if decide (3≤(v1.length:Int)) then ((v1[1]?).bind fun (x34:UInt8)=>(z0y (x34.toNat:Int)).bind fun (r36:(Int))=>z3g v1 v2 v3 (decide (r36=120))) else (z3g v1 v2 v3 false))
noncomputable def z3i (v1:Bs) (v2:Int) (v3:Int) (v17:Bool):Option (Int×Int):=
 if v17 then ((sub? v1 2 (v1.length:Int)).bind fun (l19:Bs)=>z1f v1 v2 v3 l19 2) else (if decide (3≤(v1.length:Int)) then ((v1[1]?).bind fun (x23:UInt8)=>(z0y (x23.toNat:Int)).bind fun (r25:(Int))=>z3h v1 v2 v3 (decide (r25=111))) else (z3h v1 v2 v3 false))
noncomputable def z5s (v1:Bs) (v2:Int) (v3:Int):Option (Int×Int):=
 if decide (v1=[]) then (some (0,2)) else (if ((decide (2≤v2)) && (decide (v2≤36))) then (z1f v1 v2 v3 v1 v2) else (if decide (v2=0) then ((v1[0]?).bind fun (x7:UInt8)=>if decide ((x7.toNat:Int)=48) then (if decide (3≤(v1.length:Int)) then ((v1[1]?).bind fun (x12:UInt8)=>(z0y (x12.toNat:Int)).bind fun (r14:(Int))=>z3i v1 v2 v3 (decide (r14=98))) else (z3i v1 v2 v3 false)) else (z1f v1 v2 v3 v1 10)) else (some (0,3))))
noncomputable def z3q (v31:Int):Option (Int×Int):=
 some (v31,0)
noncomputable def z3r (v14:Bool) (r15:(Int×Int)) (v24:Int):Option (Int×Int):=
 if (0:Int)≤(IntKind.wrap .u64 (wr (v24 - 1))) then (if ((!v14) && (decide ((shl_ .u64 1 (IntKind.wrap .u64 (wr (v24 - 1))))≤r15.1))) then (some (IntKind.wrap .i64 (IntKind.wrap .u64 ((shl_ .u64 1 (IntKind.wrap .u64 (wr (v24 - 1)))) - 1)),1)) else (if (v14 && (decide ((shl_ .u64 1 (IntKind.wrap .u64 (wr (v24 - 1)))) < r15.1))) then (if -9223372036854775807≤IntKind.wrap .i64 (shl_ .u64 1 (IntKind.wrap .u64 (wr (v24 - 1))))∧IntKind.wrap .i64 (shl_ .u64 1 (IntKind.wrap .u64 (wr (v24 - 1))))≤9223372036854775807 then (some ((-(IntKind.wrap .i64 (shl_ .u64 1 (IntKind.wrap .u64 (wr (v24 - 1)))))),1)) else none) else (if v14 then (if -9223372036854775807≤IntKind.wrap .i64 r15.1∧IntKind.wrap .i64 r15.1≤9223372036854775807 then (z3q (-(IntKind.wrap .i64 r15.1))) else none) else (z3q (IntKind.wrap .i64 r15.1))))) else none
noncomputable def z3s (v3:Int) (v14:Bool) (r15:(Int×Int)) (v21:Bool):Option (Int×Int):=
 if v21 then (some (0,r15.2)) else (if decide (v3=0) then (z3r v14 r15 64) else (z3r v14 r15 v3))
noncomputable def z2j (v2:Int) (v3:Int) (v13:Bs) (v14:Bool):Option (Int×Int):=
 (z5s v13 v2 v3).bind fun (r15:(Int×Int))=>if decide (r15.2≠0) then (if (0:Int)≤r15.2∧r15.2≤(4:Int) then (z3s v3 v14 r15 (decide (r15.2≠1))) else none) else (z3s v3 v14 r15 false)
noncomputable def z52 (v1:Bs) (v2:Int) (v3:Int):Option (Int×Int):=
 if decide (v1=[]) then (some (0,2)) else ((v1[0]?).bind fun (x5:UInt8)=>if decide ((x5.toNat:Int)=43) then ((sub? v1 1 (v1.length:Int)).bind fun (l8:Bs)=>z2j v2 v3 l8 false) else (if decide ((x5.toNat:Int)=45) then ((sub? v1 1 (v1.length:Int)).bind fun (l11:Bs)=>z2j v2 v3 l11 true) else (z2j v2 v3 v1 false)))
noncomputable def z3u (k15:Nat) (x18:Int) (v14:Int):Option (Int ⊕ (Int×Int)):=
 if decide (9 < (IntKind.wrap .u8 (x18 - 48))) then (some (.inr (0,2))) else (some (.inl (wr ((wr (v14 * 10))+(IntKind.wrap .i64 (IntKind.wrap .u8 (x18 - 48)))))))
noncomputable def z2r (v23:Int):Option (Int×Int):=
 some (v23,0)
noncomputable def z2u (v1:Bs) (v14:Int):Option (Int×Int):=
 (v1[0]?).bind fun (x19:UInt8)=>if decide ((x19.toNat:Int)=45) then (if -9223372036854775807≤v14∧v14≤9223372036854775807 then (z2r (-v14)) else none) else (z2r v14)
noncomputable def z2t (v1:Bs) (v13:Bs):Option (Int×Int):=
 if (z94 v13).length≤1000000000 then forL (fun (k:Nat) (x:Int) (s:Int)=>z3u k x s) (fun (s:Int)=>z2u v1 s) 0 (z94 v13) 0 else none
noncomputable def z2s (v1:Bs) (v8:Bool):Option (Int×Int):=
 if v8 then ((sub? v1 1 (v1.length:Int)).bind fun (l10:Bs)=>if decide ((l10.length:Int) < 1) then (some (0,2)) else (z2t v1 l10)) else (z2t v1 v1)
noncomputable def z27 (v1:Bs):Option (Int×Int):=
 if ((false && ((decide (0 < (v1.length:Int))) && (decide ((v1.length:Int) < 10)))) || (true && ((decide (0 < (v1.length:Int))) && (decide ((v1.length:Int) < 19))))) then ((v1[0]?).bind fun (x3:UInt8)=>if decide ((x3.toNat:Int)=45) then (z2s v1 true) else (z2s v1 (decide ((x3.toNat:Int)=43)))) else ((z52 v1 10 0).bind fun (r27:(Int×Int))=>some (r27.1,r27.2))
noncomputable def z5a (s1:Bs):Option (Int×Int):=
 (z27 s1).bind fun (r2:(Int×Int))=>if decide (r2.2≠0) then ((y0e [65,116,111,105] s1 0 0 r2.2).bind fun (r5:(Int))=>some (r2.1,r5)) else (some (r2.1,0))
noncomputable def z8k (v29:Bool):Option (Unit ⊕ (Int×Bool)):=
 if v29 then (some (.inr (0,false))) else (some (.inl ()))
noncomputable def z8j (i18:Nat) (x21:UInt8):Option (Unit ⊕ (Int×Bool)):=
 if decide ((x21.toNat:Int) < 48) then (z8k true) else (z8k (decide (57 < (x21.toNat:Int))))
noncomputable def z7q (s1:Bs):Option (Int×Bool):=
 (z5a s1).bind fun (r22:(Int×Int))=>some (r22.1,decide (r22.2=0))
noncomputable def z3p (s1:Bs) (r3:(Bs)) (v16:Bool):Option (Int×Bool):=
 if v16 then (some (0,false)) else (if r3.length≤1000000000 then forL (fun (k:Nat) (x:UInt8) (s:Unit)=>z8j k x) (fun (s:Unit)=>z7q s1) 0 r3 () else none)
noncomputable def z6x (s1:Bs) (most2:Int):Option (Int×Bool):=
 (z4v s1 [45]).bind fun (r3:(Bs))=>if decide (r3=[]) then (z3p s1 r3 true) else (if decide (most2 < (r3.length:Int)) then (z3p s1 r3 true) else ((r3[0]?).bind fun (x9:UInt8)=>if decide ((x9.toNat:Int)=48) then (z3p s1 r3 (decide (s1≠[48]))) else (z3p s1 r3 false)))
noncomputable def z19 (r2:((List Bs)×z0g)):Option (Int×Int×z0g):=
 some (0,0,(z0g.mk r2.2.lines_ r2.2.ended_ (wr (r2.2.at_ - 1)) true))
noncomputable def z1r (s1:z0g):Option (Int×Int×z0g):=
 (z0x s1 [116,105,109,101] true).bind fun (r2:((List Bs)×z0g))=>if r2.2.bad_ then (some (0,0,r2.2)) else (if decide ((r2.1.length:Int)=2) then ((r2.1[0]?).bind fun (x6:Bs)=>(z6x x6 15).bind fun (r8:(Int×Bool))=>(r2.1[1]?).bind fun (x10:Bs)=>(z6x x10 15).bind fun (r12:(Int×Bool))=>if (r8.2 && r12.2) then (some (r8.1,r12.1,r2.2)) else (z19 r2)) else (z19 r2))
noncomputable def z6e (v1:Bs):Option (z0f×Int×Int):=
 if decide (4000 < (v1.length:Int)) then (some ((z0f.mk [] [] [] [] [] [] 0 0),0,2)) else ((z9v v1).bind fun (r3:((List Bs)×Bool))=>(z0v (z0g.mk r3.1 r3.2 0 false) [105,100] true).bind fun (r5:(Bs×z0g))=>(z0v r5.2 [115,117,98,106,101,99,116] true).bind fun (r7:(Bs×z0g))=>(z0v r7.2 [105,115,115,117,101,114] true).bind fun (r9:(Bs×z0g))=>(z0v r9.2 [112,97,114,101,110,116] false).bind fun (r11:(Bs×z0g))=>(z0x r11.2 [102,111,114] false).bind fun (r13:((List Bs)×z0g))=>(z0x r13.2 [109,97,121] false).bind fun (r15:((List Bs)×z0g))=>(z1r r15.2).bind fun (r17:(Int×Int×z0g))=>if (r17.2.2.bad_ || (decide (r17.2.2.at_ < (r17.2.2.lines_.length:Int)))) then (some ((z0f.mk [] [] [] [] [] [] 0 0),r17.2.2.at_,9)) else ((z3y (z0f.mk r5.1 r7.1 r9.1 r11.1 r13.1 r15.1 r17.1 r17.2.1)).bind fun (r20:(Int))=>if decide (r20≠0) then (some ((z0f.mk [] [] [] [] [] [] 0 0),0,r20)) else (some ((z0f.mk r5.1 r7.1 r9.1 r11.1 r13.1 r15.1 r17.1 r17.2.1),0,0))))
noncomputable def z3z (s1:Bs):Option (Bool):=
 some (((decide (s1≠[112,97,114,101,110,116])) && (decide (s1≠[102,111,114]))) && (decide (s1≠[109,97,121])))
noncomputable def z5l (r15:(Int×Int)) (v22:Bool):Option (Int×Bool):=
 some (r15.1,v22)
noncomputable def z2e (s1:Bs) (v13:Bool):Option (Int×Bool):=
 if v13 then (some (0,false)) else ((z5a s1).bind fun (r15:(Int×Int))=>if decide (r15.2=0) then ((z4o r15.1).bind fun (r19:(Bs))=>z5l r15 (decide (r19=s1))) else (z5l r15 false))
noncomputable def z4i (s1:Bs) (most2:Int):Option (Int×Bool):=
 (z4v s1 [45]).bind fun (r3:(Bs))=>if decide (r3=[]) then (z2e s1 true) else (if decide (most2 < (r3.length:Int)) then (z2e s1 true) else ((z5d r3 [48,49,50,51,52,53,54,55,56,57]).bind fun (r9:(Bool))=>z2e s1 (!r9)))
noncomputable def z5b (s1:z0f) (v2:(List Bs)):Option (Bool×z0f):=
 (v2[0]?).bind fun (x3:Bs)=>if decide (x3=[102,111,114]) then ((sub? v2 1 (v2.length:Int)).bind fun (l6:(List Bs))=>some (decide (1 < (v2.length:Int)),(z0f.mk s1.Id s1.Subject s1.Issuer s1.Parent l6 s1.Scopes s1.From s1.To))) else (if decide (x3=[109,97,121]) then ((sub? v2 1 (v2.length:Int)).bind fun (l9:(List Bs))=>some (decide (1 < (v2.length:Int)),(z0f.mk s1.Id s1.Subject s1.Issuer s1.Parent s1.Audience l9 s1.From s1.To))) else (if decide (x3=[116,105,109,101]) then (if decide ((v2.length:Int)≠3) then (some (false,s1)) else ((v2[1]?).bind fun (x13:Bs)=>(z4i x13 15).bind fun (r15:(Int×Bool))=>(v2[2]?).bind fun (x17:Bs)=>(z4i x17 15).bind fun (r19:(Int×Bool))=>some ((r15.2 && r19.2),(z0f.mk s1.Id s1.Subject s1.Issuer s1.Parent s1.Audience s1.Scopes r15.1 r19.1)))) else (if decide ((v2.length:Int)≠2) then (some (false,s1)) else (if [105,100].length≤1000000000 then (if [115,117,98,106,101,99,116].length≤1000000000 then (if [105,115,115,117,101,114].length≤1000000000 then (if [112,97,114,101,110,116].length≤1000000000 then (if x3.length≤1000000000 then ((v2[1]?).bind fun (x27:Bs)=>if z39 ((lkG ([([105,100],(0:Int)),([115,117,98,106,101,99,116],(1:Int)),([105,115,115,117,101,114],(2:Int)),([112,97,114,101,110,116],(3:Int))]:List (Bs×Int)) x3).getD (-1))=true then ((some (z7b s1 ((lkG ([([105,100],(0:Int)),([115,117,98,106,101,99,116],(1:Int)),([105,115,115,117,101,114],(2:Int)),([112,97,114,101,110,116],(3:Int))]:List (Bs×Int)) x3).getD (-1)) x27)).bind fun (c30:z0f)=>some (true,c30)) else none) else none) else none) else none) else none) else none))))
noncomputable def z1u (v5:Int) (r17:(Bs×Bs×Bool)) (r23:(Int)) (v45:Bool) (c46:Bs) (c47:Bs) (c48:Bs) (c49:Bs) (c50:(List Bs)) (c51:(List Bs)) (c52:Int) (c53:Int):Option ((Bs×Int×Int×Bs×Bs×Bs×Bs×(List Bs)×(List Bs)×Int×Int) ⊕ (z0f×Int×Int)):=
 if v45 then (some (.inr ((z0f.mk [] [] [] [] [] [] 0 0),v5,9))) else (some (.inl (r17.2.1,wr (r23+1),wr (v5+1),c46,c47,c48,c49,c50,c51,c52,c53)))
noncomputable def z45 (c55:Bs) (c56:Bs) (c57:Bs) (c58:Bs) (c59:(List Bs)) (c60:(List Bs)) (c61:Int) (c62:Int):Option (z0f×Int×Int):=
 (z2m (z0f.mk c55 c56 c57 c58 c59 c60 c61 c62)).bind fun (r63:(Int))=>if decide (r63≠0) then (some ((z0f.mk [] [] [] [] [] [] 0 0),0,r63)) else (some ((z0f.mk c55 c56 c57 c58 c59 c60 c61 c62),0,0))
noncomputable def z1p (v3:Bs) (v4:Int) (v5:Int) (c6:Bs) (c7:Bs) (c8:Bs) (c9:Bs) (c10:(List Bs)) (c11:(List Bs)) (c12:Int) (c13:Int):Option ((Bs×Int×Int×Bs×Bs×Bs×Bs×(List Bs)×(List Bs)×Int×Int) ⊕ (z0f×Int×Int)):=
 if decide (v3=[]) then (if decide (v4=(([[105,100],[115,117,98,106,101,99,116],[105,115,115,117,101,114],[112,97,114,101,110,116],[102,111,114],[109,97,121],[116,105,109,101]]).length:Int)) then (Option.map .inr (z45 c6 c7 c8 c9 c10 c11 c12 c13)) else (some (.inr ((z0f.mk [] [] [] [] [] [] 0 0),v5,9)))) else ((z6f v3 [10]).bind fun (r17:(Bs×Bs×Bool))=>(z2q r17.1 [32]).bind fun (r19:((List Bs)))=>(r19[0]?).bind fun (x21:Bs)=>(z11 ([[105,100],[115,117,98,106,101,99,116],[105,115,115,117,101,114],[112,97,114,101,110,116],[102,111,114],[109,97,121],[116,105,109,101]]) x21).bind fun (r23:(Int))=>(sub? ([[105,100],[115,117,98,106,101,99,116],[105,115,115,117,101,114],[112,97,114,101,110,116],[102,111,114],[109,97,121],[116,105,109,101]]) v4 (max r23 v4)).bind fun (l25:(List Bs))=>(z1a l25 (fun (a0:Bs)=>z3z a0)).bind fun (r27:(Bool))=>if !r17.2.2 then (z1u v5 r17 r23 true c6 c7 c8 c9 c10 c11 c12 c13) else (if decide (r23 < v4) then (z1u v5 r17 r23 true c6 c7 c8 c9 c10 c11 c12 c13) else (if r27 then (z1u v5 r17 r23 true c6 c7 c8 c9 c10 c11 c12 c13) else ((z17 r19 []).bind fun (r35:(Bool))=>if r35 then (z1u v5 r17 r23 true c6 c7 c8 c9 c10 c11 c12 c13) else ((z5b (z0f.mk c6 c7 c8 c9 c10 c11 c12 c13) r19).bind fun (r39:(Bool×z0f))=>z1u v5 r17 r23 (!r39.1) r39.2.Id r39.2.Subject r39.2.Issuer r39.2.Parent r39.2.Audience r39.2.Scopes r39.2.From r39.2.To)))))
noncomputable def z5f (v1:Bs):Option (z0f×Int×Int):=
 if decide (4000 < (v1.length:Int)) then (some ((z0f.mk [] [] [] [] [] [] 0 0),0,2)) else (iter (fun (s:Bs×Int×Int×Bs×Bs×Bs×Bs×(List Bs)×(List Bs)×Int×Int)=>z1p s.1 s.2.1 s.2.2.1 s.2.2.2.1 s.2.2.2.2.1 s.2.2.2.2.2.1 s.2.2.2.2.2.2.1 s.2.2.2.2.2.2.2.1 s.2.2.2.2.2.2.2.2.1 s.2.2.2.2.2.2.2.2.2.1 s.2.2.2.2.2.2.2.2.2.2) (v1,0,0,[],[],[],[],([]:(List Bs)),([]:(List Bs)),0,0))
noncomputable def z12 (v19:Bool):Option (Bool):=
 some v19
noncomputable def z5e (a1:z0f) (b2:z0f):Option (Bool):=
 if ((a1.Id == b2.Id) && ((a1.Subject == b2.Subject) && ((a1.Issuer == b2.Issuer) && ((a1.Parent == b2.Parent) && true)))) then ((z1h a1.Audience b2.Audience).bind fun (r5:(Bool))=>if r5 then ((z1h a1.Scopes b2.Scopes).bind fun (r9:(Bool))=>if r9 then (if decide (a1.From=b2.From) then (z12 (decide (a1.To=b2.To))) else (z12 false)) else (z12 false)) else (z12 false)) else (z12 false)
noncomputable def z9n (x6:Int) (k11:Nat) (l10:(List Int)):Option ((List Int) ⊕ ((Bs×(List Int)) ⊕ (Bs))):=
 if (0:Int)≤(wr (18 - (wr (6 * (k11:Int))))) then ((at? [65,66,67,68,69,70,71,72,73,74,75,76,77,78,79,80,81,82,83,84,85,86,87,88,89,90,97,98,99,100,101,102,103,104,105,106,107,108,109,110,111,112,113,114,115,116,117,118,119,120,121,122,48,49,50,51,52,53,54,55,56,57,45,95] (and_ .i64 (shr_ .i64 x6 (wr (18 - (wr (6 * (k11:Int)))))) 63)).bind fun (x18:UInt8)=>if l10.length+1≤1000000000 then (some (.inl (l10++[(x18.toNat:Int)]))) else none) else none
noncomputable def z9q (s2:Bs) (l10:(List Int)):Option ((Bs×(List Int)) ⊕ (Bs)):=
 (sub? s2 (min 3 (s2.length:Int)) (s2.length:Int)).bind fun (l14:Bs)=>some (.inl (l14,l10))
noncomputable def z7h (x25:Int):Option (Int ⊕ ((Bs×(List Int)) ⊕ (Bs))):=
 some (.inl x25)
noncomputable def z9o (s2:Bs) (k7:Nat) (x6:Int):Option (Int ⊕ ((Bs×(List Int)) ⊕ (Bs))):=
 if decide ((k7:Int) < (min 3 (s2.length:Int))) then ((s2[k7]?).bind fun (x23:UInt8)=>z7h (or_ .i64 (shl_ .i64 x6 8) (IntKind.wrap .i64 (x23.toNat:Int)))) else (z7h (shl_ .i64 x6 8))
noncomputable def z9r (s2:Bs) (l3:(List Int)) (x6:Int):Option ((Bs×(List Int)) ⊕ (Bs)):=
 if (wr ((min 3 (s2.length:Int))+1))≤1000000000 then rng (fun (k:Nat) (s:(List Int))=>z9n x6 k s) (fun (s:(List Int))=>z9q s2 s) ((wr ((min 3 (s2.length:Int))+1)).toNat) 0 l3 else none
noncomputable def z8d (out26:(List Int)):Option (Bs):=
 some (strN out26)
noncomputable def z9p (s2:Bs) (l3:(List Int)):Option ((Bs×(List Int)) ⊕ (Bs)):=
 if decide (0 < (s2.length:Int)) then (if 3≤1000000000 then rng (fun (k:Nat) (s:Int)=>z9o s2 k s) (fun (s:Int)=>z9r s2 l3 s) 3 0 0 else none) else (Option.map .inr (z8d l3))
noncomputable def z7z (s1:Bs):Option (Bs):=
 iter (fun (s:Bs×(List Int))=>z9p s.1 s.2) (s1,[])
noncomputable def z6t  : Option (Bool):=
 (z7z [97,98]).bind fun (r1:(Bs))=>some (decide (r1=[89,87,73]))
noncomputable def z1c (v45:Bool):Option (Bool):=
 some v45
noncomputable def z2h (r2:(z0f×z0d)) (v10:Bs):Option (Bool):=
 (z4r r2.1).bind fun (r11:(Bs×Int))=>(z4j r2.1).bind fun (r13:(Bs×Int))=>(z6e v10).bind fun (r15:(z0f×Int×Int))=>(z5f v10).bind fun (r17:(z0f×Int×Int))=>(z3y r2.1).bind fun (r19:(Int))=>(z2m r2.1).bind fun (r21:(Int))=>if decide (r19=r21) then (if decide (r11.1=r13.1) then (if decide (r11.2=r13.2) then ((z5e r15.1 r17.1).bind fun (r29:(Bool))=>if r29 then (if decide (r15.2.1=r17.2.1) then (if decide (r15.2.2=r17.2.2) then ((z6t ).bind fun (r37:(Bool))=>z1c r37) else (z1c false)) else (z1c false)) else (z1c false)) else (z1c false)) else (z1c false)) else (z1c false)
noncomputable def z5j (v1:(List Int)):Option (Bool):=
 (z4m (z0d.mk v1 0)).bind fun (r2:(z0f×z0d))=>(z3o r2.2).bind fun (r4:(Bs×z0d))=>(z1o r4.2 60).bind fun (r6:(Bool×z0d))=>if r6.1 then (if 0≤(4001:Int)∧(4001:Int)≤1000000000 then (z2h r2 (strN (List.replicate ((4001:Int).toNat) (0:Int)))) else none) else (z2h r2 r4.1)
end Go.Proofs.YtihjlkocfeoelaaGreatDoor
