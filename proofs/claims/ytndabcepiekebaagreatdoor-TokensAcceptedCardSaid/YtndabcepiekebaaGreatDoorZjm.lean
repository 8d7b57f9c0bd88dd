/- Plain models of functions. Printed by a program. -/
import Derived.Test.YtndabcepiekebaaGreatDoorMc
import Derived.Test.YtndabcepiekebaaGreatDoorRng
import Derived.Test.YtndabcepiekebaaGreatDoorMl
namespace Go.Proofs.YtndabcepiekebaaGreatDoor
set_option linter.unusedVariables false
set_option maxRecDepth 20000
structure z0d where
 L:(List Int)
 at_:Int
structure z0i where
 Id:Bs
 Secret:Bs
 From:Int
 To:Int
 Until:Int
structure z0u where
 Id:Bs
 At:Int
 Until:Int
structure z0y where
 App:Bs
 Sum:Bs
 Scopes:(List Bs)
 From:Int
 To:Int
structure z1t where
 Issuer:Bs
 Audience:Bs
 Signers:(List z0i)
 Revoked:(List z0u)
 Holders:(List z0y)
 Skew:Int
structure z0e where
 Id:Bs
 Subject:Bs
 Issuer:Bs
 Parent:Bs
 Audience:(List Bs)
 Scopes:(List Bs)
 From:Int
 To:Int
structure z0k where
 lines_:(List Bs)
 ended_:Bool
 at_:Int
 bad_:Bool
def z66 (x:Int):Bool:=decide (x=0) || decide (x=1) || decide (x=2) || decide (x=3)
def x5u (c:z0e) (x:Int):Bs:=if x=0 then c.Id else if x=1 then c.Subject else if x=2 then c.Issuer else if x=3 then c.Parent else []
def y23 (c:z0e) (x:Int) (y:Bs):z0e:=if x=0 then z0e.mk y c.Subject c.Issuer c.Parent c.Audience c.Scopes c.From c.To else if x=1 then z0e.mk c.Id y c.Issuer c.Parent c.Audience c.Scopes c.From c.To else if x=2 then z0e.mk c.Id c.Subject y c.Parent c.Audience c.Scopes c.From c.To else if x=3 then z0e.mk c.Id c.Subject c.Issuer y c.Audience c.Scopes c.From c.To else c
noncomputable def y0t (x6:Int):Option (Int):=
 some x6
noncomputable def z97 (x1:Int) (n2:Int):Option (Int):=
 if decide (n2 < 1) then some 0 else (if n2≠0 then (if decide ((Int.tmod x1 n2) < 0) then (y0t (wr ((Int.tmod x1 n2)+n2))) else (y0t (Int.tmod x1 n2))) else none)
noncomputable def z1x (s1:z0d) (n2:Int):Option (Int×z0d):=
 if decide ((s1.L.length:Int)=0) then ((z97 (wr ((wr (s1.at_+1)) * 7919)) n2).bind fun (r4:(Int))=>some (r4,(z0d.mk s1.L (wr (s1.at_+1))))) else (if (s1.L.length:Int)≠0 then (if ((0:Int)≤(wr ((wr (s1.at_+1)) - 1))∧(wr ((wr (s1.at_+1)) - 1))≤9223372036854775807)∧(0:Int) < (s1.L.length:Int) then ((at? s1.L (Int.tmod (wr ((wr (s1.at_+1)) - 1)) (s1.L.length:Int))).bind fun (x8:Int)=>(z97 x8 1073741824).bind fun (r10:(Int))=>(z97 (wr (r10+(wr (((wr ((wr (s1.at_+1)) - 1)) / (s1.L.length:Int)) * (wr (7919+(Int.tmod (wr ((wr (s1.at_+1)) - 1)) (s1.L.length:Int)))))))) n2).bind fun (r12:(Int))=>some (r12,(z0d.mk s1.L (wr (s1.at_+1))))) else none) else none)
noncomputable def z5d (s1:z0d) (low2:Int) (high3:Int):Option (Int×z0d):=
 if decide (high3 < low2) then (some (low2,s1)) else ((z1x s1 (wr ((wr (high3 - low2))+1))).bind fun (r5:(Int×z0d))=>some (wr (low2+r5.1),r5.2))
noncomputable def z1i (s1:z0d) (l2:(List Int)):Option (Int×z0d):=
 (z1x s1 (l2.length:Int)).bind fun (r3:(Int×z0d))=>(at? l2 r3.1).bind fun (x5:Int)=>some (x5,r3.2)
noncomputable def z07 (s1:z0d) (l2:(List Bs)):Option (Bs×z0d):=
 (z1x s1 (l2.length:Int)).bind fun (r3:(Int×z0d))=>(at? l2 r3.1).bind fun (x5:Bs)=>some (x5,r3.2)
noncomputable def z1j (s1:z0d) (n2:Int):Option (Bool×z0d):=
 (z1x s1 n2).bind fun (r3:(Int×z0d))=>some (decide (r3.1=0),r3.2)
noncomputable def z6w (k10:Nat) (x13:Bs) (v6:Int) (c7:(List Int)) (c8:Int) (l9:(List z0i)):Option ((Int×(List Int)×Int×(List z0i)) ⊕ ((List z0i)×z0d)):=
 (z1i (z0d.mk c7 c8) [0,10,50,100]).bind fun (r16:(Int×z0d))=>(z07 r16.2 ([[111,110,101],[116,119,111],[107,33]])).bind fun (r18:(Bs×z0d))=>(z1i r18.2 [0,10,100,200]).bind fun (r20:(Int×z0d))=>(z1i r20.2 [0,5,100,1000]).bind fun (r22:(Int×z0d))=>if l9.length+1≤1000000000 then (some (.inl (wr (v6+r16.1),r22.2.L,r22.2.at_,(l9++[(z0i.mk x13 r18.1 (wr (v6+r16.1)) (wr ((wr (v6+r16.1))+r20.1)) (wr ((wr ((wr (v6+r16.1))+r20.1))+r22.1)))])))) else none
noncomputable def z9g (v6:Int) (c7:(List Int)) (c8:Int) (l9:(List z0i)):Option ((List z0i)×z0d):=
 some (l9,(z0d.mk c7 c8))
noncomputable def z4y (s1:z0d):Option ((List z0i)×z0d):=
 (z5d s1 0 3).bind fun (r2:(Int×z0d))=>(sub? ([[115,49],[115,50],[115,51]]) 0 r2.1).bind fun (l4:(List Bs))=>if l4.length≤1000000000 then forL (fun (k:Nat) (x:Bs) (s:Int×(List Int)×Int×(List z0i))=>z6w k x s.1 s.2.1 s.2.2.1 s.2.2.2) (fun (s:Int×(List Int)×Int×(List z0i))=>z9g s.1 s.2.1 s.2.2.1 s.2.2.2) 0 l4 (0,r2.2.L,r2.2.at_,[]) else none
noncomputable def z7u (s1:z0d):Option (Bs×z0d):=
 (z5o [115] 101).bind fun (r2:(Bs))=>(z07 s1 ([[111,110,101],[116,119,111],[116,104,114,101,101],[107,33],[111,110,101],[],[97,32,98],[127],r2])).bind fun (r4:(Bs×z0d))=>some (r4.1,r4.2)
noncomputable def z3e (s1:z0d) (low2:Int) (high3:Int):Option (Int×z0d):=
 (z1j s1 12).bind fun (r4:(Bool×z0d))=>if r4.1 then ((z1i r4.2 [wr (low2 - 1),wr (high3+1),low2,high3,(-1099511627776),1099511627776]).bind fun (r7:(Int×z0d))=>some (r7.1,r7.2)) else ((z5d r4.2 low2 high3).bind fun (r9:(Int×z0d))=>some (r9.1,r9.2))
noncomputable def z23 (out29:(List z0i)) (c30:(List Int)) (c31:Int):Option ((List z0i)×z0d):=
 some (out29,(z0d.mk c30 c31))
noncomputable def z3w (r2:((List z0i)×z0d)) (v9:Bool) (c10:(List Int)) (c11:Int):Option ((List z0i)×z0d):=
 if v9 then ((z1x (z0d.mk c10 c11) (r2.1.length:Int)).bind fun (r13:(Int×z0d))=>(at? r2.1 r13.1).bind fun (x15:z0i)=>(z1x r13.2 3).bind fun (r17:(Int×z0d))=>if decide (r17.1=0) then ((z07 r17.2 ([[],[65],[115,49]])).bind fun (r20:(Bs×z0d))=>z23 (r2.1.set r13.1.toNat (z0i.mk r20.1 x15.Secret x15.From x15.To x15.Until)) r20.2.L r20.2.at_) else (if decide (r17.1=1) then ((z7u r17.2).bind fun (r23:(Bs×z0d))=>z23 (r2.1.set r13.1.toNat (z0i.mk x15.Id r23.1 x15.From x15.To x15.Until)) r23.2.L r23.2.at_) else ((z3e r17.2 0 300).bind fun (r25:(Int×z0d))=>(z3e r25.2 0 300).bind fun (r27:(Int×z0d))=>z23 ((r2.1.set r13.1.toNat (z0i.mk x15.Id x15.Secret r25.1 x15.To x15.Until)).set r13.1.toNat (z0i.mk x15.Id x15.Secret r25.1 r27.1 x15.Until)) r27.2.L r27.2.at_))) else (z23 r2.1 c10 c11)
noncomputable def z7c (s1:z0d):Option ((List z0i)×z0d):=
 (z4y s1).bind fun (r2:((List z0i)×z0d))=>if decide (0 < (r2.1.length:Int)) then ((z1j r2.2 12).bind fun (r6:(Bool×z0d))=>z3w r2 r6.1 r6.2.L r6.2.at_) else (z3w r2 false r2.2.L r2.2.at_)
noncomputable def z43 (out19:(List z0u)) (c20:(List Int)) (c21:Int):Option ((List z0u)×z0d):=
 some (out19,(z0d.mk c20 c21))
noncomputable def z42 (out32:(List z0u)) (c33:(List Int)) (c34:Int):Option (((List Int)×Int×(List z0u)) ⊕ ((List z0u)×z0d)):=
 some (.inl (c33,c34,out32))
noncomputable def z8r (k5:Nat) (x8:Bs) (c2:(List Int)) (c3:Int) (l4:(List z0u)):Option (((List Int)×Int×(List z0u)) ⊕ ((List z0u)×z0d)):=
 (z1j (z0d.mk c2 c3) 3).bind fun (r24:(Bool×z0d))=>if r24.1 then ((z1i r24.2 [0,60,100]).bind fun (r27:(Int×z0d))=>(z1i r27.2 [0,50,200]).bind fun (r29:(Int×z0d))=>if l4.length+1≤1000000000 then (z42 (l4++[(z0u.mk x8 r27.1 (wr (r27.1+r29.1)))]) r29.2.L r29.2.at_) else none) else (z42 l4 r24.2.L r24.2.at_)
noncomputable def z8s (c2:(List Int)) (c3:Int) (l4:(List z0u)):Option ((List z0u)×z0d):=
 (z1j (z0d.mk c2 c3) 15).bind fun (r9:(Bool×z0d))=>if r9.1 then ((z07 r9.2 ([[],[116,49],[116,57]])).bind fun (r12:(Bs×z0d))=>(z3e r12.2 0 50).bind fun (r14:(Int×z0d))=>(z3e r14.2 50 300).bind fun (r16:(Int×z0d))=>if l4.length+1≤1000000000 then (z43 (l4++[(z0u.mk r12.1 r14.1 r16.1)]) r16.2.L r16.2.at_) else none) else (z43 l4 r9.2.L r9.2.at_)
noncomputable def z7d (s1:z0d):Option ((List z0u)×z0d):=
 if ([[116,48],[116,49],[116,50]]).length≤1000000000 then forL (fun (k:Nat) (x:Bs) (s:(List Int)×Int×(List z0u))=>z8r k x s.1 s.2.1 s.2.2) (fun (s:(List Int)×Int×(List z0u))=>z8s s.1 s.2.1 s.2.2) 0 ([[116,48],[116,49],[116,50]]) (s1.L,s1.at_,[]) else none
noncomputable def z3q (k7:Nat) (c4:(List Int)) (c5:Int) (l6:(List Bs)):Option (((List Int)×Int×(List Bs)) ⊕ ((List Bs)×z0d)):=
 (z07 (z0d.mk c4 c5) ([[97],[97,58,42],[97,58,98],[97,58,98,58,42],[97,58,98,58,99],[98],[98,58,42],[98,58,99],[42]])).bind fun (r11:(Bs×z0d))=>if l6.length+1≤1000000000 then (some (.inl (r11.2.L,r11.2.at_,(l6++[r11.1])))) else none
noncomputable def z41 (c4:(List Int)) (c5:Int) (l6:(List Bs)):Option ((List Bs)×z0d):=
 some (l6,(z0d.mk c4 c5))
noncomputable def z17 (s1:z0d):Option ((List Bs)×z0d):=
 (z5d s1 0 4).bind fun (r2:(Int×z0d))=>if r2.1≤1000000000 then rng (fun (k:Nat) (s:(List Int)×Int×(List Bs))=>z3q k s.1 s.2.1 s.2.2) (fun (s:(List Int)×Int×(List Bs))=>z41 s.1 s.2.1 s.2.2) r2.1.toNat 0 (r2.2.L,r2.2.at_,[]) else none
noncomputable def z8c (s1:z0d):Option (Bs×z0d):=
 (z1j s1 25).bind fun (r2:(Bool×z0d))=>if r2.1 then ((z5o [97,58] 10).bind fun (r5:(Bs))=>if r5.length+[97].length≤1000000000 then ((z07 r2.2 ([[],[97,58,42,58,98],[65],[97,58,58,98],[97,58],[42,42],[97,42],(r5++[97])])).bind fun (r8:(Bs×z0d))=>some (r8.1,r8.2)) else none) else ((z07 r2.2 ([[42],[97],[97,58,42],[97,58,98],[97,58,98,58,42],[97,58,98,58,99],[98],[98,58,42],[98,58,99],[99]])).bind fun (r10:(Bs×z0d))=>some (r10.1,r10.2))
noncomputable def z52 (out17:(List Bs)) (c18:(List Int)) (c19:Int):Option ((List Bs)×z0d):=
 some (out17,(z0d.mk c18 c19))
noncomputable def z39 (out10:(List Bs)) (c11:(List Int)) (c12:Int):Option ((List Bs)×z0d):=
 (z1j (z0d.mk c11 c12) 60).bind fun (r13:(Bool×z0d))=>if r13.1 then (if 51≤1000000000 then (z52 (List.replicate 51 []) r13.2.L r13.2.at_) else none) else (z52 out10 r13.2.L r13.2.at_)
noncomputable def z7v (s1:z0d):Option ((List Bs)×z0d):=
 (z17 s1).bind fun (r2:((List Bs)×z0d))=>(z1j r2.2 6).bind fun (r4:(Bool×z0d))=>if r4.1 then ((z8c r4.2).bind fun (r7:(Bs×z0d))=>if r2.1.length+1≤1000000000 then (z39 (r2.1++[r7.1]) r7.2.L r7.2.at_) else none) else (z39 r2.1 r4.2.L r4.2.at_)
noncomputable def y28 (k5:Nat) (x8:UInt8) (h4:Int):Option (Int ⊕ (Int)):=
 some (.inl (IntKind.wrap .u64 ((xor_ .u64 h4 (IntKind.wrap .u64 (x8.toNat:Int))) * 1099511628211)))
noncomputable def y29 (h4:Int):Option (Int):=
 some h4
noncomputable def y3r (l1:(List Bs)):Option (Int):=
 (z5z l1 [0]).bind fun (r2:(Bs))=>if r2.length≤1000000000 then forL (fun (k:Nat) (x:UInt8) (s:Int)=>y28 k x s) (fun (s:Int)=>y29 s) 0 r2 14695981039346656037 else none
noncomputable def z90 (i1:Int):Option (Bs):=
 if decide (i1 < 10) then ((sub? [48,49,50,51,52,53,54,55,56,57,97,98,99,100,101,102,103,104,105,106,107,108,109,110,111,112,113,114,115,116,117,118,119,120,121,122] i1 (wr (i1+1))).bind fun (l3:Bs)=>some l3) else ((sub? [48,48,48,49,48,50,48,51,48,52,48,53,48,54,48,55,48,56,48,57,49,48,49,49,49,50,49,51,49,52,49,53,49,54,49,55,49,56,49,57,50,48,50,49,50,50,50,51,50,52,50,53,50,54,50,55,50,56,50,57,51,48,51,49,51,50,51,51,51,52,51,53,51,54,51,55,51,56,51,57,52,48,52,49,52,50,52,51,52,52,52,53,52,54,52,55,52,56,52,57,53,48,53,49,53,50,53,51,53,52,53,53,53,54,53,55,53,56,53,57,54,48,54,49,54,50,54,51,54,52,54,53,54,54,54,55,54,56,54,57,55,48,55,49,55,50,55,51,55,52,55,53,55,54,55,55,55,56,55,57,56,48,56,49,56,50,56,51,56,52,56,53,56,54,56,55,56,56,56,57,57,48,57,49,57,50,57,51,57,52,57,53,57,54,57,55,57,56,57,57] (wr (i1 * 2)) (wr ((wr (i1 * 2))+2))).bind fun (l5:Bs)=>some l5)
noncomputable def z4p (x1:Int):Option (Bool):=
 some (decide ((and_ .i64 x1 (wr (x1 - 1)))=0))
noncomputable def z3i (v5:Bool) (v52:Int) (l53:(List Int)):Option ((List Int)×Bs):=
 if v5 then none else (if l53.length=65 then (if (0:Int)≤v52∧v52≤(65:Int) then (some ([],(strN (l53.drop v52.toNat)))) else none) else none)
noncomputable def z3k (v4:Bool) (v5:Bool) (v47:Int) (l48:(List Int)):Option ((List Int)×Bs):=
 if v4 then (if (0:Int)≤(wr (v47 - 1))∧(wr (v47 - 1)) < (65:Int) then (if (wr (v47 - 1)).toNat < l48.length then (z3i v5 (wr (v47 - 1)) (l48.set (wr (v47 - 1)).toNat 45)) else none) else none) else (z3i v5 v47 l48)
noncomputable def z3j (v4:Bool) (v5:Bool) (v23:Int) (v24:Int) (l25:(List Int)):Option ((List Int)×Bs):=
 (at? [48,49,50,51,52,53,54,55,56,57,97,98,99,100,101,102,103,104,105,106,107,108,109,110,111,112,113,114,115,116,117,118,119,120,121,122] v23).bind fun (x26:UInt8)=>if (0:Int)≤(wr (v24 - 1))∧(wr (v24 - 1)) < (65:Int) then (if (wr (v24 - 1)).toNat < l25.length then (z3k v4 v5 (wr (v24 - 1)) (l25.set (wr (v24 - 1)).toNat (x26.toNat:Int))) else none) else none
noncomputable def z2t (v3:Int) (v4:Bool) (v5:Bool) (r11:(Int)) (v13:Int) (v14:Int) (l15:(List Int)):Option ((Int×Int×(List Int)) ⊕ ((List Int)×Bs)):=
 if decide ((IntKind.wrap .u64 v3)≤v13) then ((at? [48,49,50,51,52,53,54,55,56,57,97,98,99,100,101,102,103,104,105,106,107,108,109,110,111,112,113,114,115,116,117,118,119,120,121,122] (and_ .u64 v13 (IntKind.wrap .u64 ((IntKind.wrap .u64 v3) - 1)))).bind fun (x18:UInt8)=>if (0:Int)≤(wr (v14 - 1))∧(wr (v14 - 1)) < (65:Int) then (if (wr (v14 - 1)).toNat < l15.length then (if (0:Int)≤(IntKind.wrap .u64 r11) then (some (.inl ((shr_ .u64 v13 (IntKind.wrap .u64 r11)),wr (v14 - 1),(l15.set (wr (v14 - 1)).toNat (x18.toNat:Int))))) else none) else none) else none) else (Option.map .inr (z3j v4 v5 v13 v14 l15))
noncomputable def z63 (v4:Bool) (v5:Bool) (v40:Int) (v41:Int) (l42:(List Int)):Option ((List Int)×Bs):=
 (at? [48,49,50,51,52,53,54,55,56,57,97,98,99,100,101,102,103,104,105,106,107,108,109,110,111,112,113,114,115,116,117,118,119,120,121,122] v40).bind fun (x43:UInt8)=>if (0:Int)≤(wr (v41 - 1))∧(wr (v41 - 1)) < (65:Int) then (if (wr (v41 - 1)).toNat < l42.length then (z3k v4 v5 (wr (v41 - 1)) (l42.set (wr (v41 - 1)).toNat (x43.toNat:Int))) else none) else none
noncomputable def z9x (v3:Int) (v4:Bool) (v5:Bool) (v30:Int) (v31:Int) (l32:(List Int)):Option ((Int×Int×(List Int)) ⊕ ((List Int)×Bs)):=
 if decide ((IntKind.wrap .u64 v3)≤v30) then (if (IntKind.wrap .u64 v3)≠0 then ((at? [48,49,50,51,52,53,54,55,56,57,97,98,99,100,101,102,103,104,105,106,107,108,109,110,111,112,113,114,115,116,117,118,119,120,121,122] (IntKind.wrap .u64 (v30 - (IntKind.wrap .u64 ((IntKind.wrap .u64 (Int.tdiv v30 (IntKind.wrap .u64 v3))) * (IntKind.wrap .u64 v3)))))).bind fun (x36:UInt8)=>if (0:Int)≤(wr (v31 - 1))∧(wr (v31 - 1)) < (65:Int) then (if (wr (v31 - 1)).toNat < l32.length then (some (.inl ((IntKind.wrap .u64 (Int.tdiv v30 (IntKind.wrap .u64 v3))),wr (v31 - 1),(l32.set (wr (v31 - 1)).toNat (x36.toNat:Int))))) else none) else none) else none) else (Option.map .inr (z63 v4 v5 v30 v31 l32))
noncomputable def z3l (v2:Int) (v3:Int) (v4:Bool) (v5:Bool):Option ((List Int)×Bs):=
 (z4p v3).bind fun (r8:(Bool))=>if r8 then ((z8m (IntKind.wrap .u64 v3)).bind fun (r11:(Int))=>iter (fun (s:Int×Int×(List Int))=>z2t v3 v4 v5 r11 s.1 s.2.1 s.2.2) (v2,65,(List.replicate 65 0))) else (iter (fun (s:Int×Int×(List Int))=>z9x v3 v4 v5 s.1 s.2.1 s.2.2) (v2,65,(List.replicate 65 0)))
noncomputable def z30 (v1:(List Int)) (v2:Int) (v3:Int) (v4:Bool) (v5:Bool):Option ((List Int)×Bs):=
 if (((decide (v3 < 2)) || (decide (v3=10))) || (decide (36 < v3))) then none else (if v4 then none else (z3l v2 v3 v4 v5))
noncomputable def z7g (i1:Int) (base2:Int):Option (Bs):=
 if decide (base2=10) then (if decide (i1 < 100) then ((z90 (IntKind.wrap .i64 i1)).bind fun (r5:(Bs))=>some r5) else none) else ((z30 ([]:(List Int)) i1 base2 false false).bind fun (r7:((List Int)×Bs))=>some r7.2)
noncomputable def z8l (i1:Int) (base2:Int):Option (Bs):=
 (z7g i1 base2).bind fun (r3:(Bs))=>some r3
noncomputable def y1d (h1:Int):Option (Bs):=
 (z8l h1 16).bind fun (r2:(Bs))=>(z5o [48] (wr (16 - (r2.length:Int)))).bind fun (r4:(Bs))=>if r4.length+r2.length≤1000000000 then (some (r4++r2)) else none
noncomputable def y3v (k6:Nat) (h5:Int):Option (Int ⊕ (Bs)):=
 some (.inl (IntKind.wrap .u64 ((xor_ .u64 h5 (shr_ .u64 h5 29)) * 13787848793156543929)))
noncomputable def y0s (h5:Int):Option (Bs):=
 (y1d h5).bind fun (r9:(Bs))=>some r9
noncomputable def z4l (secret1:Bs) (text2:Bs):Option (Bs):=
 (y3r [secret1,text2,secret1]).bind fun (r3:(Int))=>if 3≤1000000000 then rng (fun (k:Nat) (s:Int)=>y3v k s) (fun (s:Int)=>y0s s) 3 0 r3 else none
noncomputable def z45 (v21:(List z0y)) (c22:(List Int)) (c23:Int):Option ((List z0y)×z0d):=
 some (v21,(z0d.mk c22 c23))
noncomputable def z8t (x8:Bs) (r33:(List Bs)) (k38:Nat) (c35:(List Int)) (c36:Int) (l37:(List z0y)):Option (((List Int)×Int×(List z0y)) ⊕ (((List Int)×Int×(List z0y)) ⊕ ((List z0y)×z0d))):=
 (r33[k38]?).bind fun (x42:Bs)=>(z1i (z0d.mk c35 c36) [0,0,50]).bind fun (r44:(Int×z0d))=>(z17 r44.2).bind fun (r46:((List Bs)×z0d))=>(z1i r46.2 [0,50,100,1000]).bind fun (r48:(Int×z0d))=>if l37.length+1≤1000000000 then (some (.inl (r48.2.L,r48.2.at_,(l37++[(z0y.mk x8 x42 r46.1 r44.1 (wr (r44.1+r48.1)))])))) else none
noncomputable def z8w (c35:(List Int)) (c36:Int) (l37:(List z0y)):Option (((List Int)×Int×(List z0y)) ⊕ ((List z0y)×z0d)):=
 some (.inl (c35,c36,l37))
noncomputable def z44 (v59:(List Bs)) (c60:(List Int)) (c61:Int):Option (((List Int)×Int×(List Bs)) ⊕ (((List Int)×Int×(List z0y)) ⊕ ((List z0y)×z0d))):=
 some (.inl (c60,c61,v59))
noncomputable def z8u (k29:Nat) (x32:Bs) (c26:(List Int)) (c27:Int) (l28:(List Bs)):Option (((List Int)×Int×(List Bs)) ⊕ (((List Int)×Int×(List z0y)) ⊕ ((List z0y)×z0d))):=
 (z1j (z0d.mk c26 c27) 2).bind fun (r53:(Bool×z0d))=>if r53.1 then ((z4l [103,97,116,101] x32).bind fun (r56:(Bs))=>if l28.length+1≤1000000000 then (z44 (l28++[r56]) r53.2.L r53.2.at_) else none) else (z44 l28 r53.2.L r53.2.at_)
noncomputable def z8x (l4:(List z0y)) (x8:Bs) (c26:(List Int)) (c27:Int) (l28:(List Bs)):Option (((List Int)×Int×(List z0y)) ⊕ ((List z0y)×z0d)):=
 (z3a l28).bind fun (r33:(List Bs))=>if r33.length≤1000000000 then rng (fun (k:Nat) (s:(List Int)×Int×(List z0y))=>z8t x8 r33 k s.1 s.2.1 s.2.2) (fun (s:(List Int)×Int×(List z0y))=>z8w s.1 s.2.1 s.2.2) r33.length 0 (c26,c27,l4) else none
noncomputable def z8v (k5:Nat) (x8:Bs) (c2:(List Int)) (c3:Int) (l4:(List z0y)):Option (((List Int)×Int×(List z0y)) ⊕ ((List z0y)×z0d)):=
 if ([[107,101,121,45,49],[107,101,121,45,50]]).length≤1000000000 then forL (fun (k:Nat) (x:Bs) (s:(List Int)×Int×(List Bs))=>z8u k x s.1 s.2.1 s.2.2) (fun (s:(List Int)×Int×(List Bs))=>z8x l4 x8 s.1 s.2.1 s.2.2) 0 ([[107,101,121,45,49],[107,101,121,45,50]]) (c2,c3,[]) else none
noncomputable def z8y (c2:(List Int)) (c3:Int) (l4:(List z0y)):Option ((List z0y)×z0d):=
 (z1j (z0d.mk c2 c3) 15).bind fun (r9:(Bool×z0d))=>if r9.1 then ((z07 r9.2 ([[97,112,112,49],[],[122,122]])).bind fun (r12:(Bs×z0d))=>(z07 r12.2 ([[120],[48,49,50,51,52,53,54,55,56,57,97,98,99,100,101,102],[48,49,50,51,52,53,54,55,56,57,65,66,67,68,69,70]])).bind fun (r14:(Bs×z0d))=>(z7v r14.2).bind fun (r16:((List Bs)×z0d))=>(z3e r16.2 0 100).bind fun (r18:(Int×z0d))=>if l4.length+1≤1000000000 then (z45 (l4++[(z0y.mk r12.1 r14.1 r16.1 0 r18.1)]) r18.2.L r18.2.at_) else none) else (z45 l4 r9.2.L r9.2.at_)
noncomputable def z7e (s1:z0d):Option ((List z0y)×z0d):=
 if ([[97,112,112,49],[97,112,112,50]]).length≤1000000000 then forL (fun (k:Nat) (x:Bs) (s:(List Int)×Int×(List z0y))=>z8v k x s.1 s.2.1 s.2.2) (fun (s:(List Int)×Int×(List z0y))=>z8y s.1 s.2.1 s.2.2) 0 ([[97,112,112,49],[97,112,112,50]]) (s1.L,s1.at_,[]) else none
noncomputable def z55 (r2:((List z0i)×z0d)) (r4:((List z0u)×z0d)) (r6:((List z0y)×z0d)) (c19:(List Int)) (c20:Int) (c21:Bs) (c22:Bs) (c23:Int):Option (z1t×z0d):=
 some ((z1t.mk c21 c22 r2.1 r4.1 r6.1 c23),(z0d.mk c19 c20))
noncomputable def z7x (s1:z0d):Option (z1t×z0d):=
 (z7c s1).bind fun (r2:((List z0i)×z0d))=>(z7d r2.2).bind fun (r4:((List z0u)×z0d))=>(z7e r4.2).bind fun (r6:((List z0y)×z0d))=>(z1i r6.2 [0,0,5,50]).bind fun (r8:(Int×z0d))=>(z1j r8.2 20).bind fun (r10:(Bool×z0d))=>if r10.1 then ((z07 r10.2 ([[103,97,116,101],[]])).bind fun (r13:(Bs×z0d))=>(z07 r13.2 ([[115,104,111,112],[65]])).bind fun (r15:(Bs×z0d))=>(z3e r15.2 0 600000).bind fun (r17:(Int×z0d))=>z55 r2 r4 r6 r17.2.L r17.2.at_ r13.1 r15.1 r17.1) else (z55 r2 r4 r6 r10.2.L r10.2.at_ [103,97,116,101] [115,104,111,112] r8.1)
noncomputable def z7w (s1:z0d):Option (Int×z0d):=
 (z1i s1 [0,10,49,50,60,99,100,101,149,150,200,300,1000,(-1),345686400000]).bind fun (r2:(Int×z0d))=>some (r2.1,r2.2)
noncomputable def z79 (n1:Int) (low2:Int) (high3:Int):Option (Bool):=
 some ((decide (low2≤n1)) && (decide (n1≤high3)))
noncomputable def y4a (some2:Bs) (k3:Nat) (x6:UInt8):Option (Unit ⊕ (Bool)):=
 (z7k some2 (x6.toNat:Int)).bind fun (r9:(Int))=>if decide (r9 < 0) then (some (.inr false)) else (some (.inl ()))
noncomputable def y5u:Option (Bool):=
 some true
noncomputable def z78 (s1:Bs) (some2:Bs):Option (Bool):=
 if s1.length≤1000000000 then forL (fun (k:Nat) (x:UInt8) (s:Unit)=>y4a some2 k x) (fun (s:Unit)=>y5u) 0 s1 () else none
noncomputable def y1b (v16:Bool):Option (Bool):=
 some v16
noncomputable def z3d (s1:Bs):Option (Bool):=
 (z79 (s1.length:Int) 1 40).bind fun (r2:(Bool))=>if r2 then ((sub? s1 0 1).bind fun (l6:Bs)=>(z78 l6 [97,98,99,100,101,102,103,104,105,106,107,108,109,110,111,112,113,114,115,116,117,118,119,120,121,122]).bind fun (r8:(Bool))=>if r8 then ((z78 s1 [97,98,99,100,101,102,103,104,105,106,107,108,109,110,111,112,113,114,115,116,117,118,119,120,121,122,48,49,50,51,52,53,54,55,56,57,45,95]).bind fun (r12:(Bool))=>y1b r12) else (y1b false)) else (y1b false)
noncomputable def z4w (p1:z0i→Option (Bool)) (k2:Nat) (x5:z0i):Option (Unit ⊕ (Int)):=
 (p1 x5).bind fun (r8:Bool)=>if r8 then (some (.inr (k2:Int))) else (some (.inl ()))
noncomputable def z4x:Option (Int):=
 some (-1)
noncomputable def z1n (s1:(List z0i)) (p1:z0i→Option (Bool)):Option (Int):=
 if s1.length≤1000000000 then forL (fun (k:Nat) (x:z0i) (s:Unit)=>z4w p1 k x) (fun (s:Unit)=>z4x) 0 s1 () else none
noncomputable def z2a (s1:(List z0i)) (p1:z0i→Option (Bool)):Option (Bool):=
 (z1n s1 p1).bind fun (r2:(Int))=>some (decide (0≤r2))
noncomputable def z7b (o1:z0i) (c2:z0i):Option (Bool):=
 some (decide (o1.Id=c2.Id))
noncomputable def z9e (v12:Bool):Option (Unit ⊕ (Bool)):=
 if v12 then (some (.inr false)) else (some (.inl ()))
noncomputable def y2r (low2:Int) (k3:Nat) (x6:UInt8):Option (Unit ⊕ (Bool)):=
 if decide ((x6.toNat:Int) < low2) then (z9e true) else (z9e (decide (126 < (x6.toNat:Int))))
noncomputable def y4g:Option (Bool):=
 some true
noncomputable def y1m (s1:Bs) (low2:Int):Option (Bool):=
 if s1.length≤1000000000 then forL (fun (k:Nat) (x:UInt8) (s:Unit)=>y2r low2 k x) (fun (s:Unit)=>y4g) 0 s1 () else none
noncomputable def z5f (s1:Bs) (v7:Bool):Option (Int):=
 if v7 then some 3 else (if decide (100 < (s1.length:Int)) then some 2 else some 0)
noncomputable def z81 (s1:Bs):Option (Int):=
 if decide (s1=[]) then (z5f s1 true) else ((y1m s1 33).bind fun (r4:(Bool))=>z5f s1 (!r4))
noncomputable def z3m (v28:Bool):Option (Unit ⊕ (Int)):=
 if v28 then (some (.inr 7)) else (some (.inl ()))
noncomputable def z7z (v1:(List z0i)) (k3:Nat) (x6:z0i):Option (Unit ⊕ (Int)):=
 (z3d x6.Id).bind fun (r9:(Bool))=>if !r9 then (some (.inr 5)) else ((sub? v1 0 (k3:Int)).bind fun (l12:(List z0i))=>(z2a l12 (fun (a0:z0i)=>z7b a0 x6)).bind fun (r14:(Bool))=>if r14 then (some (.inr 6)) else ((z81 x6.Secret).bind fun (r17:(Int))=>if decide (r17≠0) then (some (.inr r17)) else ((z79 x6.From 0 x6.To).bind fun (r20:(Bool))=>if (((!r20) || (decide (x6.Until < x6.To))) || (decide (345686400000 < x6.Until))) then (some (.inr 1)) else (if decide (0 < (k3:Int)) then ((at? v1 ((k3:Int) - 1)).bind fun (x25:z0i)=>z3m (decide (x6.From < x25.From))) else (z3m false)))))
noncomputable def y2f:Option (Int):=
 some 0
noncomputable def z8a (v1:(List z0i)):Option (Int):=
 if decide (50 < (v1.length:Int)) then some 2 else (if v1.length≤1000000000 then forL (fun (k:Nat) (x:z0i) (s:Unit)=>z7z v1 k x) (fun (s:Unit)=>y2f) 0 v1 () else none)
noncomputable def z71 (k4:Nat) (x7:z0u) (last3:Bs):Option (Bs ⊕ (Int)):=
 (z3d x7.Id).bind fun (r10:(Bool))=>if !r10 then (some (.inr 5)) else (if (Op.bytesLess x7.Id last3 || x7.Id == last3) then (some (.inr 7)) else ((z79 x7.At 0 x7.Until).bind fun (r14:(Bool))=>if ((!r14) || (decide (345686400000 < x7.Until))) then (some (.inr 1)) else (some (.inl x7.Id))))
noncomputable def z93 (last3:Bs):Option (Int):=
 some 0
noncomputable def z8b (l1:(List z0u)):Option (Int):=
 if decide (1000 < (l1.length:Int)) then some 2 else (if l1.length≤1000000000 then forL (fun (k:Nat) (x:z0u) (s:Bs)=>z71 k x s) (fun (s:Bs)=>z93 s) 0 l1 [] else none)
noncomputable def y08 (x1:Bs):Option (Bool):=
 some (decide (x1≠x1))
noncomputable def z9w (x1:Bs) (y2:Bs):Option (Int):=
 (y08 x1).bind fun (r3:(Bool))=>(y08 y2).bind fun (r5:(Bool))=>if r3 then (if r5 then some 0 else (some (-1))) else (if r5 then some 1 else (if Op.bytesLess x1 y2 then (some (-1)) else (if (!(Op.bytesLess x1 y2 || x1 == y2)) then some 1 else some 0)))
noncomputable def z2e (s2:(List Bs)) (k3:Nat) (x6:Bs):Option (Unit ⊕ (Int)):=
 if decide ((s2.length:Int)≤(k3:Int)) then (some (.inr 1)) else ((s2[k3]?).bind fun (x11:Bs)=>(z9w x6 x11).bind fun (r13:(Int))=>if decide (r13≠0) then (some (.inr r13)) else (some (.inl ())))
noncomputable def z5w (s1:(List Bs)) (s2:(List Bs)):Option (Int):=
 if decide ((s1.length:Int) < (s2.length:Int)) then (some (-1)) else some 0
noncomputable def z36 (s1:(List Bs)) (s2:(List Bs)):Option (Int):=
 if s1.length≤1000000000 then forL (fun (k:Nat) (x:Bs) (s:Unit)=>z2e s2 k x) (fun (s:Unit)=>z5w s1 s2) 0 s1 () else none
noncomputable def y3u (r2:((List Bs))) (k4:Nat) (x7:Bs):Option (Unit ⊕ (Bool)):=
 (z3d x7).bind fun (r10:(Bool))=>if ((!r10) && ((decide (x7≠[42])) || (decide ((k4:Int) < (wr ((r2.length:Int) - 1)))))) then (some (.inr false)) else (some (.inl ()))
noncomputable def y48 (r2:((List Bs))):Option (Bool):=
 some (decide ((r2.length:Int)≤10))
noncomputable def y2w (s1:Bs):Option (Bool):=
 (z3g s1 [58]).bind fun (r2:((List Bs)))=>if r2.length≤1000000000 then forL (fun (k:Nat) (x:Bs) (s:Unit)=>y3u r2 k x) (fun (s:Unit)=>y48 r2) 0 r2 () else none
noncomputable def y0i (k3:Nat) (x6:Bs):Option (Unit ⊕ (Int)):=
 (y2w x6).bind fun (r9:(Bool))=>if !r9 then (some (.inr 3)) else (some (.inl ()))
noncomputable def y2s:Option (Int):=
 some 0
noncomputable def z65 (l1:(List Bs)):Option (Int):=
 if decide (50 < (l1.length:Int)) then some 2 else (if l1.length≤1000000000 then forL (fun (k:Nat) (x:Bs) (s:Unit)=>y0i k x) (fun (s:Unit)=>y2s) 0 l1 () else none)
noncomputable def z3n (x6:z0y) (v26:Bool):Option (Unit ⊕ (Int)):=
 if v26 then (some (.inr 7)) else ((z65 x6.Scopes).bind fun (r28:(Int))=>if decide (r28≠0) then (some (.inr r28)) else ((z79 x6.From 0 x6.To).bind fun (r31:(Bool))=>if ((!r31) || (decide (345686400000 < x6.To))) then (some (.inr 1)) else (some (.inl ()))))
noncomputable def z3o (v1:(List z0y)) (k3:Nat) (x6:z0y) (v17:Bool):Option (Unit ⊕ (Int)):=
 if v17 then (some (.inr 3)) else (if decide (0 < (k3:Int)) then ((at? v1 ((k3:Int) - 1)).bind fun (x21:z0y)=>(z36 [x21.App,x21.Sum] [x6.App,x6.Sum]).bind fun (r23:(Int))=>z3n x6 (decide (0≤r23))) else (z3n x6 false))
noncomputable def z6l (v1:(List z0y)) (k3:Nat) (x6:z0y):Option (Unit ⊕ (Int)):=
 (z3d x6.App).bind fun (r9:(Bool))=>if !r9 then (some (.inr 5)) else (if decide ((x6.Sum.length:Int)≠16) then (z3o v1 k3 x6 true) else ((z78 x6.Sum [48,49,50,51,52,53,54,55,56,57,97,98,99,100,101,102]).bind fun (r14:(Bool))=>z3o v1 k3 x6 (!r14)))
noncomputable def y2g:Option (Int):=
 some 0
noncomputable def z6s (v1:(List z0y)):Option (Int):=
 if decide (500 < (v1.length:Int)) then some 2 else (if v1.length≤1000000000 then forL (fun (k:Nat) (x:z0y) (s:Unit)=>z6l v1 k x) (fun (s:Unit)=>y2g) 0 v1 () else none)
noncomputable def z8f (k17:Nat) (x20:Int):Option (Unit ⊕ (Int)):=
 if decide (x20≠0) then (some (.inr x20)) else (some (.inl ()))
noncomputable def y0j (k1:z1t):Option (Int):=
 (z79 k1.Skew 0 600000).bind fun (r21:(Bool))=>if !r21 then some 1 else some 0
noncomputable def z5g (k1:z1t) (v9:Bool):Option (Int):=
 if v9 then some 5 else ((z8a k1.Signers).bind fun (r11:(Int))=>(z8b k1.Revoked).bind fun (r13:(Int))=>(z6s k1.Holders).bind fun (r15:(Int))=>if [r11,r13,r15].length≤1000000000 then forL (fun (k:Nat) (x:Int) (s:Unit)=>z8f k x) (fun (s:Unit)=>y0j k1) 0 [r11,r13,r15] () else none)
noncomputable def z82 (k1:z1t):Option (Int):=
 (z3d k1.Issuer).bind fun (r2:(Bool))=>if !r2 then (z5g k1 true) else ((z3d k1.Audience).bind fun (r6:(Bool))=>z5g k1 (!r6))
noncomputable def y6o (i2:Nat) (x5:UInt8):Option (Unit ⊕ (Bool)):=
 if !(((decide (97≤(x5.toNat:Int))) && (decide ((x5.toNat:Int)≤122))) || ((decide (0 < (i2:Int))) && ((((decide (48≤(x5.toNat:Int))) && (decide ((x5.toNat:Int)≤57))) || (decide ((x5.toNat:Int)=45))) || (decide ((x5.toNat:Int)=95))))) then (some (.inr false)) else (some (.inl ()))
noncomputable def y78 (s1:Bs):Option (Bool):=
 some ((decide (s1≠[])) && (decide ((s1.length:Int)≤40)))
noncomputable def z6p (s1:Bs):Option (Bool):=
 if s1.length≤1000000000 then forL (fun (k:Nat) (x:UInt8) (s:Unit)=>y6o k x) (fun (s:Unit)=>y78 s1) 0 s1 () else none
noncomputable def y21 (v7:Bool):Option (Bool):=
 some v7
noncomputable def y4n (s1:Bs):Option (Bool):=
 if decide ((s1.length:Int)=16) then ((y3p s1 [48,49,50,51,52,53,54,55,56,57,97,98,99,100,101,102]).bind fun (r4:(Bs))=>y21 (decide (r4=[]))) else (y21 false)
noncomputable def y37 (r2:((List Bs))) (k4:Nat) (x7:Bs):Option (Unit ⊕ (Bool)):=
 (z6p x7).bind fun (r10:(Bool))=>if ((!r10) && (!((decide (x7=[42])) && (decide ((k4:Int)=(wr ((r2.length:Int) - 1))))))) then (some (.inr false)) else (some (.inl ()))
noncomputable def y5q (r2:((List Bs))):Option (Bool):=
 some (decide ((r2.length:Int)≤10))
noncomputable def y3j (s1:Bs):Option (Bool):=
 (z3g s1 [58]).bind fun (r2:((List Bs)))=>if r2.length≤1000000000 then forL (fun (k:Nat) (x:Bs) (s:Unit)=>y37 r2 k x) (fun (s:Unit)=>y5q r2) 0 r2 () else none
noncomputable def y11 (k3:Nat) (x6:Bs):Option (Unit ⊕ (Int)):=
 (y3j x6).bind fun (r9:(Bool))=>if !r9 then (some (.inr 3)) else (some (.inl ()))
noncomputable def y3y:Option (Int):=
 some 0
noncomputable def z88 (l1:(List Bs)):Option (Int):=
 if decide (50 < (l1.length:Int)) then some 2 else (if l1.length≤1000000000 then forL (fun (k:Nat) (x:Bs) (s:Unit)=>y11 k x) (fun (s:Unit)=>y3y) 0 l1 () else none)
noncomputable def y2p (n1:Int) (low2:Int) (high3:Int):Option (Bool):=
 some ((decide (n1 < low2)) || (decide (high3 < n1)))
noncomputable def z4h (x3:z0y) (v22:Bool):Option (Int):=
 if v22 then some 7 else ((z88 x3.Scopes).bind fun (r24:(Int))=>if decide (r24≠0) then some r24 else ((y2p x3.From 0 x3.To).bind fun (r27:(Bool))=>if (r27 || (decide (345686400000 < x3.To))) then some 1 else some 0))
noncomputable def y05 (v1:(List z0y)) (v2:Int):Option (Int):=
 (at? v1 v2).bind fun (x3:z0y)=>(z6p x3.App).bind fun (r5:(Bool))=>if !r5 then some 5 else ((y4n x3.Sum).bind fun (r8:(Bool))=>if !r8 then some 3 else (if decide (0 < v2) then ((at? v1 (wr (v2 - 1))).bind fun (x13:z0y)=>if Op.bytesLess x3.App x13.App then (z4h x3 true) else (if decide (x3.App=x13.App) then (z4h x3 (Op.bytesLess x3.Sum x13.Sum || x3.Sum == x13.Sum)) else (z4h x3 false))) else (z4h x3 false)))
noncomputable def y1i (l1:(List z0y)) (k3:Nat) (x6:z0y):Option (Unit ⊕ (Int)):=
 (y05 l1 (k3:Int)).bind fun (r9:(Int))=>if decide (r9≠0) then (some (.inr r9)) else (some (.inl ()))
noncomputable def y3h:Option (Int):=
 some 0
noncomputable def z8j (l1:(List z0y)):Option (Int):=
 if decide (500 < (l1.length:Int)) then some 2 else (if l1.length≤1000000000 then forL (fun (k:Nat) (x:z0y) (s:Unit)=>y1i l1 k x) (fun (s:Unit)=>y3h) 0 l1 () else none)
noncomputable def z9t (o1:z0i) (c2:z0i):Option (Bool):=
 some (decide (o1.Id=c2.Id))
noncomputable def z8h (v13:Bool):Option (Unit ⊕ (Int)):=
 if v13 then (some (.inr 3)) else (some (.inl ()))
noncomputable def y1z (k2:Nat) (x5:UInt8):Option (Unit ⊕ (Int)):=
 if decide ((x5.toNat:Int) < 33) then (z8h true) else (z8h (decide (126 < (x5.toNat:Int))))
noncomputable def y10 (s1:Bs):Option (Int):=
 if decide (s1=[]) then some 3 else (if decide (100 < (s1.length:Int)) then some 2 else some 0)
noncomputable def y03 (s1:Bs):Option (Int):=
 if s1.length≤1000000000 then forL (fun (k:Nat) (x:UInt8) (s:Unit)=>y1z k x) (fun (s:Unit)=>y10 s1) 0 s1 () else none
noncomputable def z56 (v24:Bool):Option (Int):=
 if v24 then some 7 else some 0
noncomputable def y02 (l1:(List z0i)) (i2:Int):Option (Int):=
 (at? l1 i2).bind fun (x3:z0i)=>(z6p x3.Id).bind fun (r5:(Bool))=>if !r5 then some 5 else ((sub? l1 0 i2).bind fun (l8:(List z0i))=>(z2a l8 (fun (a0:z0i)=>z9t a0 x3)).bind fun (r10:(Bool))=>if r10 then some 6 else ((y03 x3.Secret).bind fun (r13:(Int))=>if decide (r13≠0) then some r13 else ((y2p x3.From 0 x3.To).bind fun (r16:(Bool))=>if ((r16 || (decide (x3.Until < x3.To))) || (decide (345686400000 < x3.Until))) then some 1 else (if decide (0 < i2) then ((at? l1 (wr (i2 - 1))).bind fun (x21:z0i)=>z56 (decide (x3.From < x21.From))) else (z56 false)))))
noncomputable def y1g (l1:(List z0i)) (k3:Nat) (x6:z0i):Option (Unit ⊕ (Int)):=
 (y02 l1 (k3:Int)).bind fun (r9:(Int))=>if decide (r9≠0) then (some (.inr r9)) else (some (.inl ()))
noncomputable def y3g:Option (Int):=
 some 0
noncomputable def z8i (l1:(List z0i)):Option (Int):=
 if decide (50 < (l1.length:Int)) then some 2 else (if l1.length≤1000000000 then forL (fun (k:Nat) (x:z0i) (s:Unit)=>y1g l1 k x) (fun (s:Unit)=>y3g) 0 l1 () else none)
noncomputable def z7r (x6:z0u) (v17:Bool):Option (Unit ⊕ (Int)):=
 if v17 then (some (.inr 7)) else ((y2p x6.At 0 x6.Until).bind fun (r19:(Bool))=>if (r19 || (decide (345686400000 < x6.Until))) then (some (.inr 1)) else (some (.inl ())))
noncomputable def z9s (l1:(List z0u)) (k3:Nat) (x6:z0u):Option (Unit ⊕ (Int)):=
 (z6p x6.Id).bind fun (r9:(Bool))=>if !r9 then (some (.inr 5)) else (if decide (0 < (k3:Int)) then ((at? l1 ((k3:Int) - 1)).bind fun (x14:z0u)=>z7r x6 (Op.bytesLess x6.Id x14.Id || x6.Id == x14.Id)) else (z7r x6 false))
noncomputable def y1h:Option (Int):=
 some 0
noncomputable def y0c (l1:(List z0u)):Option (Int):=
 if decide (1000 < (l1.length:Int)) then some 2 else (if l1.length≤1000000000 then forL (fun (k:Nat) (x:z0u) (s:Unit)=>z9s l1 k x) (fun (s:Unit)=>y1h) 0 l1 () else none)
noncomputable def z6y (k1:z1t) (v9:Bool):Option (Int):=
 if v9 then some 5 else ((z8i k1.Signers).bind fun (r11:(Int))=>if decide (r11≠0) then some r11 else ((y0c k1.Revoked).bind fun (r14:(Int))=>if decide (r14≠0) then some r14 else ((z8j k1.Holders).bind fun (r17:(Int))=>if decide (r17≠0) then some r17 else ((y2p k1.Skew 0 600000).bind fun (r20:(Bool))=>if r20 then some 1 else some 0))))
noncomputable def z89 (k1:z1t):Option (Int):=
 (z6p k1.Issuer).bind fun (r2:(Bool))=>if !r2 then (z6y k1 true) else ((z6p k1.Audience).bind fun (r6:(Bool))=>z6y k1 (!r6))
noncomputable def z69 (p1:Bs→Option (Bool)) (k2:Nat) (x5:Bs):Option (Unit ⊕ (Int)):=
 (p1 x5).bind fun (r8:Bool)=>if r8 then (some (.inr (k2:Int))) else (some (.inl ()))
noncomputable def z7a:Option (Int):=
 some (-1)
noncomputable def z49 (s1:(List Bs)) (p1:Bs→Option (Bool)):Option (Int):=
 if s1.length≤1000000000 then forL (fun (k:Nat) (x:Bs) (s:Unit)=>z69 p1 k x) (fun (s:Unit)=>z7a) 0 s1 () else none
noncomputable def z11 (s1:(List Bs)) (p1:Bs→Option (Bool)):Option (Bool):=
 (z49 s1 p1).bind fun (r2:(Int))=>some (decide (0≤r2))
noncomputable def y3k (a1:Bs) (b2:Bs):Option (Bool):=
 (z7l a1 [42]).bind fun (r3:(Bs×Bool))=>if r3.2 then ((y06 b2 r3.1).bind fun (r6:(Bool))=>some r6) else (some (decide (a1=b2)))
noncomputable def z73 (v8:Bool):Option (Bool):=
 some v8
noncomputable def y0d (o1:Bs) (c2:Bs):Option (Bool):=
 if decide (o1≠c2) then ((y3k o1 c2).bind fun (r5:(Bool))=>z73 r5) else (z73 false)
noncomputable def z9f (out17:(List Bs)):Option ((List Bs) ⊕ ((List Bs))):=
 some (.inl out17)
noncomputable def y2t (l1:(List Bs)) (k3:Nat) (x6:Bs) (l2:(List Bs)):Option ((List Bs) ⊕ ((List Bs))):=
 (z11 l1 (fun (a0:Bs)=>y0d a0 x6)).bind fun (r13:(Bool))=>if !r13 then (if l2.length+1≤1000000000 then (z9f (l2++[x6])) else none) else (z9f l2)
noncomputable def y2u (l2:(List Bs)):Option ((List Bs)):=
 (z3a l2).bind fun (r7:(List Bs))=>(z5a r7).bind fun (r9:((List Bs)))=>some r9
noncomputable def z91 (l1:(List Bs)):Option ((List Bs)):=
 if l1.length≤1000000000 then forL (fun (k:Nat) (x:Bs) (s:(List Bs))=>y2t l1 k x s) (fun (s:(List Bs))=>y2u s) 0 l1 [] else none
noncomputable def z32 (s1:z0d):Option (z0e×z0d):=
 (z07 s1 ([[116,49],[116,49],[116,50],[116,51]])).bind fun (r2:(Bs×z0d))=>(z07 r2.2 ([[97,110,110],[98,111,98]])).bind fun (r4:(Bs×z0d))=>(z07 r4.2 ([[103,97,116,101],[103,97,116,101],[103,97,116,101],[111,116,104,101,114]])).bind fun (r6:(Bs×z0d))=>(z07 r6.2 ([[],[],[],[116,48],[116,50]])).bind fun (r8:(Bs×z0d))=>(z1x r8.2 5).bind fun (r10:(Int×z0d))=>(at? ([[],[],[[115,104,111,112]],[[109,97,112,115],[115,104,111,112]],[[109,97,112,115]]]) r10.1).bind fun (x12:(List Bs))=>(z17 r10.2).bind fun (r14:((List Bs)×z0d))=>(z91 r14.1).bind fun (r16:((List Bs)))=>(z1i r14.2 [0,50,100]).bind fun (r18:(Int×z0d))=>(z1i r18.2 [1,50,100,200]).bind fun (r20:(Int×z0d))=>some ((z0e.mk r2.1 r4.1 r6.1 r8.1 x12 r16 r18.1 (wr (r18.1+r20.1))),r20.2)
noncomputable def z6m (s2:(List Bs)) (k4:Nat) (x7:Bs):Option (Unit ⊕ (Bool)):=
 (s2[k4]?).bind fun (x10:Bs)=>if decide (x7≠x10) then (some (.inr false)) else (some (.inl ()))
noncomputable def z8p:Option (Bool):=
 some true
noncomputable def z2d (s1:(List Bs)) (s2:(List Bs)):Option (Bool):=
 if decide ((s1.length:Int)≠(s2.length:Int)) then some false else (if s1.length≤1000000000 then forL (fun (k:Nat) (x:Bs) (s:Unit)=>z6m s2 k x) (fun (s:Unit)=>z8p) 0 s1 () else none)
noncomputable def z5l (v48:Bool):Option (Unit ⊕ (Int)):=
 if v48 then (some (.inr 7)) else (some (.inl ()))
noncomputable def y0k (v1:z0e) (k25:Nat) (x28:Bs):Option (Unit ⊕ (Int)):=
 (z3d x28).bind fun (r40:(Bool))=>if !r40 then (some (.inr 5)) else (if decide (0 < (k25:Int)) then ((at? v1.Audience ((k25:Int) - 1)).bind fun (x45:Bs)=>z5l (Op.bytesLess x28 x45 || x28 == x45)) else (z5l false))
noncomputable def z8g (v1:z0e):Option (Int):=
 (z65 v1.Scopes).bind fun (r29:(Int))=>if decide (r29≠0) then some r29 else ((z91 v1.Scopes).bind fun (r32:((List Bs)))=>(z2d r32 v1.Scopes).bind fun (r34:(Bool))=>if !r34 then some 7 else (if (((decide (v1.From < 0)) || (decide (v1.To≤v1.From))) || (decide (345686400000 < v1.To))) then some 1 else some 0))
noncomputable def z2q (v1:z0e) (v22:Bool):Option (Int):=
 if v22 then some 5 else (if decide (50 < (v1.Audience.length:Int)) then some 2 else (if v1.Audience.length≤1000000000 then forL (fun (k:Nat) (x:Bs) (s:Unit)=>y0k v1 k x) (fun (s:Unit)=>z8g v1) 0 v1.Audience () else none))
noncomputable def z6b (v1:z0e):Option (Int):=
 (z3d v1.Id).bind fun (r2:(Bool))=>if !r2 then (z2q v1 true) else ((z3d v1.Subject).bind fun (r6:(Bool))=>if !r6 then (z2q v1 true) else ((z3d v1.Issuer).bind fun (r10:(Bool))=>if !r10 then (z2q v1 true) else (if decide (v1.Parent≠[]) then ((z3d v1.Parent).bind fun (r16:(Bool))=>z2q v1 (!r16)) else (z2q v1 false))))
noncomputable def z5i (c1:z0e) (l20:(List Bs)):Option (Bs):=
 (y0p c1.From).bind fun (r21:(Bs))=>if [116,105,109,101,32].length+r21.length≤1000000000 then (if ([116,105,109,101,32]++r21).length+[32].length≤1000000000 then ((y0p c1.To).bind fun (r25:(Bs))=>if (([116,105,109,101,32]++r21)++[32]).length+r25.length≤1000000000 then (if l20.length+1≤1000000000 then ((z5z (l20++([((([116,105,109,101,32]++r21)++[32])++r25)])) [10]).bind fun (r29:(Bs))=>if r29.length+[10].length≤1000000000 then (some (r29++[10])) else none) else none) else none) else none) else none
noncomputable def z5j (c1:z0e) (l14:(List Bs)):Option (Bs):=
 if decide (0 < (c1.Scopes.length:Int)) then ((z5z c1.Scopes [32]).bind fun (r16:(Bs))=>if [109,97,121,32].length+r16.length≤1000000000 then (if l14.length+1≤1000000000 then (z5i c1 (l14++([([109,97,121,32]++r16)]))) else none) else none) else (z5i c1 l14)
noncomputable def z5k (c1:z0e) (l8:(List Bs)):Option (Bs):=
 if decide (0 < (c1.Audience.length:Int)) then ((z5z c1.Audience [32]).bind fun (r10:(Bs))=>if [102,111,114,32].length+r10.length≤1000000000 then (if l8.length+1≤1000000000 then (z5j c1 (l8++([([102,111,114,32]++r10)]))) else none) else none) else (z5j c1 l8)
noncomputable def z6a (c1:z0e):Option (Bs):=
 if [105,100,32].length+c1.Id.length≤1000000000 then (if [115,117,98,106,101,99,116,32].length+c1.Subject.length≤1000000000 then (if [105,115,115,117,101,114,32].length+c1.Issuer.length≤1000000000 then (if decide (c1.Parent≠[]) then (if [112,97,114,101,110,116,32].length+c1.Parent.length≤1000000000 then (if ([([105,100,32]++c1.Id),([115,117,98,106,101,99,116,32]++c1.Subject),([105,115,115,117,101,114,32]++c1.Issuer)]:(List Bs)).length+1≤1000000000 then (z5k c1 (([([105,100,32]++c1.Id),([115,117,98,106,101,99,116,32]++c1.Subject),([105,115,115,117,101,114,32]++c1.Issuer)]:(List Bs))++([([112,97,114,101,110,116,32]++c1.Parent)]))) else none) else none) else (z5k c1 ([([105,100,32]++c1.Id),([115,117,98,106,101,99,116,32]++c1.Subject),([105,115,115,117,101,114,32]++c1.Issuer)]:(List Bs)))) else none) else none) else none
noncomputable def z6j (c1:z0e):Option (Bs×Int):=
 (z6b c1).bind fun (r2:(Int))=>if decide (r2≠0) then (some ([],r2)) else ((z6a c1).bind fun (r5:(Bs))=>if decide (4000 < (r5.length:Int)) then (some ([],2)) else (some (r5,0)))
noncomputable def y2a (v1:Int):Option (Bool):=
 (z79 v1 0 345686399999).bind fun (r2:(Bool))=>some r2
noncomputable def z4j (v2:Int) (k5:Nat) (x6:z0i):Option (Unit ⊕ (z0i×Bool)):=
 if ((decide (x6.From≤v2)) && (decide (v2 < x6.To))) then (some (.inr (x6,true))) else (some (.inl ()))
noncomputable def y0e:Option (z0i×Bool):=
 some ((z0i.mk [] [] 0 0 0),false)
noncomputable def z5c (l1:(List z0i)) (v2:Int):Option (z0i×Bool):=
 if l1.length≤1000000000 then back (fun (k:Nat) (x:z0i) (s:Unit)=>z4j v2 k x) (fun (s:Unit)=>y0e) l1 l1.length () else none
noncomputable def z1k (c1:Int):Option (Int):=
 some (or_ .u8 c1 32)
noncomputable def z3b (v47:Int) (v85:Int):Option ((Int×Int) ⊕ (Bool)):=
 some (.inl (v85,wr (v47+1)))
noncomputable def z1o (v14:Bs) (v46:Int) (v47:Int) (v78:Bool):Option ((Int×Int) ⊕ (Bool)):=
 if v78 then (z3b v47 48) else ((at? v14 v47).bind fun (x80:UInt8)=>if decide ((x80.toNat:Int)=95) then (if decide (v46≠48) then (some (.inr false)) else (z3b v47 95)) else (if decide (v46=95) then (some (.inr false)) else (z3b v47 33)))
noncomputable def z6n (v86:Int):Option (Bool):=
 some (decide (v86≠95))
noncomputable def z8q (v14:Bs) (v45:Bool) (v46:Int) (v47:Int):Option ((Int×Int) ⊕ (Bool)):=
 if decide (v47 < (v14.length:Int)) then ((at? v14 v47).bind fun (x50:UInt8)=>if decide (48≤(x50.toNat:Int)) then (if decide ((x50.toNat:Int)≤57) then (z1o v14 v46 v47 true) else (if v45 then ((z1k (x50.toNat:Int)).bind fun (r58:(Int))=>if decide (97≤r58) then ((z1k (x50.toNat:Int)).bind fun (r62:(Int))=>z1o v14 v46 v47 (decide (r62≤102))) else (z1o v14 v46 v47 false)) else (z1o v14 v46 v47 false))) else (if v45 then ((z1k (x50.toNat:Int)).bind fun (r70:(Int))=>if decide (97≤r70) then ((z1k (x50.toNat:Int)).bind fun (r74:(Int))=>z1o v14 v46 v47 (decide (r74≤102))) else (z1o v14 v46 v47 false)) else (z1o v14 v46 v47 false))) else (Option.map .inr (z6n v46))
noncomputable def z4d (v14:Bs) (v43:Int) (v44:Int) (v45:Bool):Option (Bool):=
 iter (fun (s:Int×Int)=>z8q v14 v45 s.1 s.2) (v43,v44)
noncomputable def z16 (v14:Bs) (v37:Bool):Option (Bool):=
 if v37 then ((v14[1]?).bind fun (x39:UInt8)=>(z1k (x39.toNat:Int)).bind fun (r41:(Int))=>z4d v14 48 2 (decide (r41=120))) else (z4d v14 94 0 false)
noncomputable def z4e (v14:Bs):Option (Bool):=
 if decide (2≤(v14.length:Int)) then ((v14[0]?).bind fun (x17:UInt8)=>if decide ((x17.toNat:Int)=48) then ((v14[1]?).bind fun (x21:UInt8)=>(z1k (x21.toNat:Int)).bind fun (r23:(Int))=>if decide (r23=98) then (z16 v14 true) else ((z1k (x21.toNat:Int)).bind fun (r27:(Int))=>if decide (r27=111) then (z16 v14 true) else ((z1k (x21.toNat:Int)).bind fun (r31:(Int))=>z16 v14 (decide (r31=120))))) else (z16 v14 false)) else (z16 v14 false)
noncomputable def z3c (v1:Bs) (v10:Bool):Option (Bool):=
 if v10 then ((sub? v1 1 (v1.length:Int)).bind fun (l12:Bs)=>z4e l12) else (z4e v1)
noncomputable def z9b (v1:Bs):Option (Bool):=
 if decide (1≤(v1.length:Int)) then ((v1[0]?).bind fun (x4:UInt8)=>if decide ((x4.toNat:Int)=45) then (z3c v1 true) else (z3c v1 (decide ((x4.toNat:Int)=43)))) else (z3c v1 false)
noncomputable def z5q (v87:Bool) (v88:Int):Option ((Bool×Int) ⊕ (Int×Int)):=
 some (.inl (v87,v88))
noncomputable def z40 (v46:Int) (v49:Int) (v53:Int) (v55:Bool) (v56:Int) (v83:Int):Option ((Bool×Int) ⊕ (Int×Int)):=
 if decide ((IntKind.wrap .u8 v46)≤v83) then (some (.inr (0,2))) else (if decide (v53≤v56) then (some (.inr (IntKind.wrap .u64 ((shl_ .u64 1 (IntKind.wrap .u64 v49)) - 1),1))) else (if ((decide ((IntKind.wrap .u64 ((IntKind.wrap .u64 (v56 * (IntKind.wrap .u64 v46)))+(IntKind.wrap .u64 v83))) < (IntKind.wrap .u64 (v56 * (IntKind.wrap .u64 v46))))) || (decide ((IntKind.wrap .u64 ((shl_ .u64 1 (IntKind.wrap .u64 v49)) - 1)) < (IntKind.wrap .u64 ((IntKind.wrap .u64 (v56 * (IntKind.wrap .u64 v46)))+(IntKind.wrap .u64 v83)))))) then (some (.inr (IntKind.wrap .u64 ((shl_ .u64 1 (IntKind.wrap .u64 v49)) - 1),1))) else (z5q v55 (IntKind.wrap .u64 ((IntKind.wrap .u64 (v56 * (IntKind.wrap .u64 v46)))+(IntKind.wrap .u64 v83))))))
noncomputable def z4z (v46:Int) (v49:Int) (v53:Int) (v55:Bool) (v56:Int) (x60:Int) (v79:Bool):Option ((Bool×Int) ⊕ (Int×Int)):=
 if v79 then ((z1k x60).bind fun (r81:(Int))=>z40 v46 v49 v53 v55 v56 (IntKind.wrap .u8 ((IntKind.wrap .u8 (r81 - 97))+10))) else (some (.inr (0,2)))
noncomputable def z99 (v2:Int) (v46:Int) (v49:Int) (v53:Int) (k57:Nat) (x60:Int) (v55:Bool) (v56:Int):Option ((Bool×Int) ⊕ (Int×Int)):=
 if ((decide (x60=95)) && (decide (v2=0))) then (z5q true v56) else (if ((decide (48≤x60)) && (decide (x60≤57))) then (z40 v46 v49 v53 v55 v56 (IntKind.wrap .u8 (x60 - 48))) else ((z1k x60).bind fun (r72:(Int))=>if decide (97≤r72) then ((z1k x60).bind fun (r76:(Int))=>z4z v46 v49 v53 v55 v56 x60 (decide (r76≤122))) else (z4z v46 v49 v53 v55 v56 x60 false)))
noncomputable def z5r (v56:Int) (v66:Bool):Option (Int×Int):=
 if v66 then (some (0,2)) else (some (v56,0))
noncomputable def y0a (v1:Bs) (v55:Bool) (v56:Int):Option (Int×Int):=
 if v55 then ((z9b v1).bind fun (r63:(Bool))=>z5r v56 (!r63)) else (z5r v56 false)
noncomputable def z33 (v1:Bs) (v2:Int) (v45:Bs) (v46:Int) (v49:Int) (v53:Int):Option (Int×Int):=
 if (0:Int)≤(IntKind.wrap .u64 v49) then (if (y2o v45).length≤1000000000 then forL (fun (k:Nat) (x:Int) (s:Bool×Int)=>z99 v2 v46 v49 v53 k x s.1 s.2) (fun (s:Bool×Int)=>y0a v1 s.1 s.2) 0 (y2o v45) (false,0) else none) else none
noncomputable def z5s (v1:Bs) (v2:Int) (v45:Bs) (v46:Int) (v49:Int):Option (Int×Int):=
 if decide (v46=10) then (z33 v1 v2 v45 v46 v49 1844674407370955162) else (if decide (v46=16) then (z33 v1 v2 v45 v46 v49 1152921504606846976) else (if (IntKind.wrap .u64 v46)≠0 then (z33 v1 v2 v45 v46 v49 (IntKind.wrap .u64 ((IntKind.wrap .u64 (Int.tdiv 18446744073709551615 (IntKind.wrap .u64 v46)))+1))) else none))
noncomputable def z19 (v1:Bs) (v2:Int) (v3:Int) (v45:Bs) (v46:Int):Option (Int×Int):=
 if decide (v3=0) then (z5s v1 v2 v45 v46 64) else (if ((decide (v3 < 0)) || (decide (64 < v3))) then (some (0,4)) else (z5s v1 v2 v45 v46 v3))
noncomputable def z5t (v1:Bs) (v2:Int) (v3:Int) (v39:Bool):Option (Int×Int):=
 if v39 then ((sub? v1 2 (v1.length:Int)).bind fun (l41:Bs)=>z19 v1 v2 v3 l41 16) else ((sub? v1 1 (v1.length:Int)).bind fun (l43:Bs)=>z19 v1 v2 v3 l43 8)
noncomputable def z5u (v1:Bs) (v2:Int) (v3:Int) (v28:Bool):Option (Int×Int):=
 if v28 then ((sub? v1 2 (v1.length:Int)).bind fun (l30:Bs)=>z19 v1 v2 v3 l30 8) else (if decide (3≤(v1.length:Int)) then ((v1[1]?).bind fun (x34:UInt8)=>(z1k (x34.toNat:Int)).bind fun (r36:(Int))=>z5t v1 v2 v3 (decide (r36=120))) else (z5t v1 v2 v3 false))
noncomputable def z5v (v1:Bs) (v2:Int) (v3:Int) (v17:Bool):Option (Int×Int):=
 if v17 then ((sub? v1 2 (v1.length:Int)).bind fun (l19:Bs)=>z19 v1 v2 v3 l19 2) else (if decide (3≤(v1.length:Int)) then ((v1[1]?).bind fun (x23:UInt8)=>(z1k (x23.toNat:Int)).bind fun (r25:(Int))=>z5u v1 v2 v3 (decide (r25=111))) else (z5u v1 v2 v3 false))
noncomputable def y0g (v1:Bs) (v2:Int) (v3:Int):Option (Int×Int):=
 if decide (v1=[]) then (some (0,2)) else (if ((decide (2≤v2)) && (decide (v2≤36))) then (z19 v1 v2 v3 v1 v2) else (if decide (v2=0) then ((v1[0]?).bind fun (x7:UInt8)=>if decide ((x7.toNat:Int)=48) then (if decide (3≤(v1.length:Int)) then ((v1[1]?).bind fun (x12:UInt8)=>(z1k (x12.toNat:Int)).bind fun (r14:(Int))=>z5v v1 v2 v3 (decide (r14=98))) else (z5v v1 v2 v3 false)) else (z19 v1 v2 v3 v1 10)) else (some (0,3))))
noncomputable def z6g (v31:Int):Option (Int×Int):=
 some (v31,0)
noncomputable def z6h (v14:Bool) (r15:(Int×Int)) (v24:Int):Option (Int×Int):=
 if (0:Int)≤(IntKind.wrap .u64 (wr (v24 - 1))) then (if ((!v14) && (decide ((shl_ .u64 1 (IntKind.wrap .u64 (wr (v24 - 1))))≤r15.1))) then (some (IntKind.wrap .i64 (IntKind.wrap .u64 ((shl_ .u64 1 (IntKind.wrap .u64 (wr (v24 - 1)))) - 1)),1)) else (if (v14 && (decide ((shl_ .u64 1 (IntKind.wrap .u64 (wr (v24 - 1)))) < r15.1))) then (if -9223372036854775807≤IntKind.wrap .i64 (shl_ .u64 1 (IntKind.wrap .u64 (wr (v24 - 1))))∧IntKind.wrap .i64 (shl_ .u64 1 (IntKind.wrap .u64 (wr (v24 - 1))))≤9223372036854775807 then (some ((-(IntKind.wrap .i64 (shl_ .u64 1 (IntKind.wrap .u64 (wr (v24 - 1)))))),1)) else none) else (if v14 then (if -9223372036854775807≤IntKind.wrap .i64 r15.1∧IntKind.wrap .i64 r15.1≤9223372036854775807 then (z6g (-(IntKind.wrap .i64 r15.1))) else none) else (z6g (IntKind.wrap .i64 r15.1))))) else none
noncomputable def z6i (v3:Int) (v14:Bool) (r15:(Int×Int)) (v21:Bool):Option (Int×Int):=
 if v21 then (some (0,r15.2)) else (if decide (v3=0) then (z6h v14 r15 64) else (z6h v14 r15 v3))
noncomputable def z4b (v2:Int) (v3:Int) (v13:Bs) (v14:Bool):Option (Int×Int):=
 (y0g v13 v2 v3).bind fun (r15:(Int×Int))=>if decide (r15.2≠0) then (if (0:Int)≤r15.2∧r15.2≤(4:Int) then (z6i v3 v14 r15 (decide (r15.2≠1))) else none) else (z6i v3 v14 r15 false)
noncomputable def z77 (v1:Bs) (v2:Int) (v3:Int):Option (Int×Int):=
 if decide (v1=[]) then (some (0,2)) else ((v1[0]?).bind fun (x5:UInt8)=>if decide ((x5.toNat:Int)=43) then ((sub? v1 1 (v1.length:Int)).bind fun (l8:Bs)=>z4b v2 v3 l8 false) else (if decide ((x5.toNat:Int)=45) then ((sub? v1 1 (v1.length:Int)).bind fun (l11:Bs)=>z4b v2 v3 l11 true) else (z4b v2 v3 v1 false)))
noncomputable def z60 (s1:Bs) (base2:Int) (bitSize3:Int):Option (Int×Int):=
 (z77 s1 base2 bitSize3).bind fun (r4:(Int×Int))=>if decide (r4.2≠0) then ((y44 [80,97,114,115,101,73,110,116] s1 base2 bitSize3 r4.2).bind fun (r7:(Int))=>some (r4.1,r7)) else (some (r4.1,0))
noncomputable def z74 (i1:Int) (base2:Int):Option (Bs):=
 if decide (base2=10) then (if ((decide (0≤i1)) && (decide (i1 < 100))) then ((z90 i1).bind fun (r5:(Bs))=>some r5) else none) else ((z30 ([]:(List Int)) (IntKind.wrap .u64 i1) base2 (decide (i1 < 0)) false).bind fun (r7:((List Int)×Bs))=>some r7.2)
noncomputable def z6o (i1:Int) (base2:Int):Option (Bs):=
 (z74 i1 base2).bind fun (r3:(Bs))=>some r3
noncomputable def z7n (out23:Bs):Option (Bs):=
 some out23
noncomputable def z2n (bits7:Bs) (out8:Bs):Option ((Bs×Bs) ⊕ (Bs)):=
 if decide (bits7≠[]) then ((sub? bits7 0 (min 6 (bits7.length:Int))).bind fun (l11:Bs)=>(sub? [48,48,48,48,48,48] (min 6 (bits7.length:Int)) ([48,48,48,48,48,48].length:Int)).bind fun (l13:Bs)=>if l11.length+l13.length≤1000000000 then ((z60 (l11++l13) 2 64).bind fun (r16:(Int×Int))=>(sub? [65,66,67,68,69,70,71,72,73,74,75,76,77,78,79,80,81,82,83,84,85,86,87,88,89,90,97,98,99,100,101,102,103,104,105,106,107,108,109,110,111,112,113,114,115,116,117,118,119,120,121,122,48,49,50,51,52,53,54,55,56,57,45,95] r16.1 (wr (r16.1+1))).bind fun (l18:Bs)=>if out8.length+l18.length≤1000000000 then ((sub? bits7 (min 6 (bits7.length:Int)) (bits7.length:Int)).bind fun (l21:Bs)=>some (.inl (l21,(out8++l18)))) else none) else none) else (Option.map .inr (z7n out8))
noncomputable def z7m (k3:Nat) (x6:UInt8) (bits2:Bs):Option (Bs ⊕ (Bs)):=
 (z6o (wr (256+(IntKind.wrap .i64 (x6.toNat:Int)))) 2).bind fun (r26:(Bs))=>(sub? r26 1 (r26.length:Int)).bind fun (l28:Bs)=>if bits2.length+l28.length≤1000000000 then (some (.inl (bits2++l28))) else none
noncomputable def z7o (bits2:Bs):Option (Bs):=
 iter (fun (s:Bs×Bs)=>z2n s.1 s.2) (bits2,[])
noncomputable def z61 (s1:Bs):Option (Bs):=
 if s1.length≤1000000000 then forL (fun (k:Nat) (x:UInt8) (s:Bs)=>z7m k x s) (fun (s:Bs)=>z7o s) 0 s1 [] else none
noncomputable def y1n (l1:(List z0i)) (c2:z0e) (v3:Int):Option (Bs×Int):=
 (z6j c2).bind fun (r4:(Bs×Int))=>if decide (r4.2≠0) then (some ([],r4.2)) else ((y2a v3).bind fun (r7:(Bool))=>if !r7 then (some ([],1)) else ((z5c l1 v3).bind fun (r10:(z0i×Bool))=>if !r10.2 then (some ([],8)) else (if decide (r10.1.Until < c2.To) then (some ([],1)) else (if r10.1.Id.length+[46].length≤1000000000 then ((z61 r4.1).bind fun (r15:(Bs))=>if (r10.1.Id++[46]).length+r15.length≤1000000000 then (if ((r10.1.Id++[46])++r15).length+[46].length≤1000000000 then ((z4l r10.1.Secret ((r10.1.Id++[46])++r15)).bind fun (r19:(Bs))=>if (((r10.1.Id++[46])++r15)++[46]).length+r19.length≤1000000000 then (some (((((r10.1.Id++[46])++r15)++[46])++r19),0)) else none) else none) else none) else none))))
noncomputable def z50 (s1:z0d) (t2:Bs) (v3:Bs):Option (Bs×z0d):=
 if ((decide (t2=[])) || (decide (v3=[]))) then (some (v3,s1)) else ((z1x s1 (t2.length:Int)).bind fun (r5:(Int×z0d))=>(z1x r5.2 (v3.length:Int)).bind fun (r7:(Int×z0d))=>(at? v3 r7.1).bind fun (x9:UInt8)=>(z1x r7.2 3).bind fun (r11:(Int×z0d))=>if decide (r11.1=0) then ((sub? t2 0 r5.1).bind fun (l14:Bs)=>if l14.length+(encL (IntKind.wrap .i32 (x9.toNat:Int))).length≤1000000000 then ((sub? t2 (wr (r5.1+1)) (t2.length:Int)).bind fun (l17:Bs)=>if (l14++(encL (IntKind.wrap .i32 (x9.toNat:Int)))).length+l17.length≤1000000000 then (some (((l14++(encL (IntKind.wrap .i32 (x9.toNat:Int))))++l17),r11.2)) else none) else none) else (if decide (r11.1=1) then ((sub? t2 0 r5.1).bind fun (l21:Bs)=>if l21.length+(encL (IntKind.wrap .i32 (x9.toNat:Int))).length≤1000000000 then ((sub? t2 r5.1 (t2.length:Int)).bind fun (l24:Bs)=>if (l21++(encL (IntKind.wrap .i32 (x9.toNat:Int)))).length+l24.length≤1000000000 then (some (((l21++(encL (IntKind.wrap .i32 (x9.toNat:Int))))++l24),r11.2)) else none) else none) else ((sub? t2 0 r5.1).bind fun (l27:Bs)=>(sub? t2 (wr (r5.1+1)) (t2.length:Int)).bind fun (l29:Bs)=>if l27.length+l29.length≤1000000000 then (some ((l27++l29),r11.2)) else none)))
noncomputable def z34 (t23:Bs) (c24:(List Int)) (c25:Int):Option (Bs×z0d):=
 some (t23,(z0d.mk c24 c25))
noncomputable def z7h (k11:Nat) (t8:Bs) (c9:(List Int)) (c10:Int):Option ((Bs×(List Int)×Int) ⊕ (Bs×z0d)):=
 (z50 (z0d.mk c9 c10) t8 [32,10,105,116,48,115,58]).bind fun (r27:(Bs×z0d))=>some (.inl (r27.1,r27.2.L,r27.2.at_))
noncomputable def z7i (t8:Bs) (c9:(List Int)) (c10:Int):Option (Bs×z0d):=
 (z1j (z0d.mk c9 c10) 10).bind fun (r14:(Bool×z0d))=>if r14.1 then ((z07 r14.2 ([[105,100,32,116,49,10],[116,105,109,101],[10,105,115,115,117,101,114],[115,117,98,106,101,99,116],[109,97,121]])).bind fun (r17:(Bs×z0d))=>(z07 r17.2 ([[],[102,111,114],[10,105,100],[109,97,121],[10]])).bind fun (r19:(Bs×z0d))=>(y3q t8 r17.1 r19.1 1).bind fun (r21:(Bs))=>z34 r21 r19.2.L r19.2.at_) else (z34 t8 r14.2.L r14.2.at_)
noncomputable def z6e (s1:z0d):Option (Bs×z0d):=
 (z32 s1).bind fun (r2:(z0e×z0d))=>(z6a r2.1).bind fun (r4:(Bs))=>(z1i r2.2 [0,0,1,2]).bind fun (r6:(Int×z0d))=>if r6.1≤1000000000 then rng (fun (k:Nat) (s:Bs×(List Int)×Int)=>z7h k s.1 s.2.1 s.2.2) (fun (s:Bs×(List Int)×Int)=>z7i s.1 s.2.1 s.2.2) r6.1.toNat 0 (r4,r6.2.L,r6.2.at_) else none
noncomputable def z3p (v56:Bs) (c57:(List Int)) (c58:Int):Option (Bs×z0d):=
 some (v56,(z0d.mk c57 c58))
noncomputable def z2u (v43:Bs) (c44:(List Int)) (c45:Int):Option (Bs×z0d):=
 (z1j (z0d.mk c44 c45) 25).bind fun (r46:(Bool×z0d))=>if r46.1 then ((z07 r46.2 ([[65],[89,82],[42],[]])).bind fun (r49:(Bs×z0d))=>if [115,49,46].length+r49.1.length≤1000000000 then (if ([115,49,46]++r49.1).length+[46].length≤1000000000 then ((z4l [111,110,101] ([115,49,46]++r49.1)).bind fun (r53:(Bs))=>if (([115,49,46]++r49.1)++[46]).length+r53.length≤1000000000 then (z3p ((([115,49,46]++r49.1)++[46])++r53) r49.2.L r49.2.at_) else none) else none) else none) else (z3p v43 r46.2.L r46.2.at_)
noncomputable def z2v (v35:Bs) (c36:(List Int)) (c37:Int):Option (Bs×z0d):=
 (z1j (z0d.mk c36 c37) 8).bind fun (r38:(Bool×z0d))=>if r38.1 then ((z50 r38.2 v35 [65,46,98,95,48]).bind fun (r41:(Bs×z0d))=>z2u r41.1 r41.2.L r41.2.at_) else (z2u v35 r38.2.L r38.2.at_)
noncomputable def z2w (s1:z0d) (v17:Bs):Option (Bs×z0d):=
 (z1j s1 8).bind fun (r18:(Bool×z0d))=>if r18.1 then ((z07 r18.2 ([[115,49],[115,50],[115,57]])).bind fun (r21:(Bs×z0d))=>if r21.1.length+[46].length≤1000000000 then ((z6e r21.2).bind fun (r24:(Bs×z0d))=>(z61 r24.1).bind fun (r26:(Bs))=>if (r21.1++[46]).length+r26.length≤1000000000 then (if ((r21.1++[46])++r26).length+[46].length≤1000000000 then ((z07 r24.2 ([[111,110,101],[116,119,111]])).bind fun (r30:(Bs×z0d))=>(z4l r30.1 ((r21.1++[46])++r26)).bind fun (r32:(Bs))=>if (((r21.1++[46])++r26)++[46]).length+r32.length≤1000000000 then (z2v ((((r21.1++[46])++r26)++[46])++r32) r30.2.L r30.2.at_) else none) else none) else none) else none) else (z2v v17 r18.2.L r18.2.at_)
noncomputable def z5p (s1:z0d) (v2:(List z0i)) (v3:z0e) (v4:Int):Option (Bs×z0d):=
 (y1n v2 v3 v4).bind fun (r5:(Bs×Int))=>if decide (r5.2≠0) then ((z6a v3).bind fun (r8:(Bs))=>(z61 r8).bind fun (r10:(Bs))=>if [115,49,46].length+r10.length≤1000000000 then (if ([115,49,46]++r10).length+[46].length≤1000000000 then ((z4l [111,110,101] ([115,49,46]++r10)).bind fun (r14:(Bs))=>if (([115,49,46]++r10)++[46]).length+r14.length≤1000000000 then (z2w s1 ((([115,49,46]++r10)++[46])++r14)) else none) else none) else none) else (z2w s1 r5.1)
noncomputable def y35 (n1:Int):Option (Bool):=
 some ((decide (0≤n1)) && (decide (n1 < 345686400000)))
noncomputable def y04 (v1:Int):Option (Int):=
 (y35 v1).bind fun (r2:(Bool))=>if !r2 then some 1 else some 0
noncomputable def y22 (x1:z0i) (c2:(List Bs)):Option (Bool):=
 (c2[0]?).bind fun (x3:Bs)=>some (decide (x1.Id=x3))
noncomputable def y6m (k9:Nat) (h8:Int):Option (Int ⊕ (Bs)):=
 some (.inl (IntKind.wrap .u64 ((xor_ .u64 h8 (shr_ .u64 h8 29)) * 13787848793156543929)))
noncomputable def y6n (h8:Int):Option (Bs):=
 (z8l h8 16).bind fun (r12:(Bs))=>(z5o [48] (wr (16 - (r12.length:Int)))).bind fun (r14:(Bs))=>if r14.length+r12.length≤1000000000 then (some (r14++r12)) else none
noncomputable def y6l (k21:Nat) (x24:UInt8) (h20:Int):Option (Int ⊕ (Int ⊕ (Bs))):=
 some (.inl (IntKind.wrap .u64 ((xor_ .u64 h20 (IntKind.wrap .u64 (x24.toNat:Int))) * 1099511628211)))
noncomputable def y74 (h20:Int):Option (Int ⊕ (Bs)):=
 some (.inl h20)
noncomputable def y3c (k4:Nat) (x7:Bs) (h3:Int):Option (Int ⊕ (Bs)):=
 if x7.length≤1000000000 then forL (fun (k:Nat) (x:UInt8) (s:Int)=>y6l k x s) (fun (s:Int)=>y74 s) 0 x7 h3 else none
noncomputable def y2k (h3:Int):Option (Bs):=
 if 3≤1000000000 then rng (fun (k:Nat) (s:Int)=>y6m k s) (fun (s:Int)=>y6n s) 3 0 h3 else none
noncomputable def y43 (secret1:Bs) (text2:Bs):Option (Bs):=
 if ([secret1,[0],text2,[0],secret1]).length≤1000000000 then forL (fun (k:Nat) (x:Bs) (s:Int)=>y3c k x s) (fun (s:Int)=>y2k s) 0 ([secret1,[0],text2,[0],secret1]) 14695981039346656037 else none
noncomputable def y0u (x6:Int) (k11:Nat) (l10:(List Int)):Option ((List Int) ⊕ ((Bs×(List Int)) ⊕ (Bs))):=
 if (0:Int)≤(wr (18 - (wr (6 * (k11:Int))))) then ((at? [65,66,67,68,69,70,71,72,73,74,75,76,77,78,79,80,81,82,83,84,85,86,87,88,89,90,97,98,99,100,101,102,103,104,105,106,107,108,109,110,111,112,113,114,115,116,117,118,119,120,121,122,48,49,50,51,52,53,54,55,56,57,45,95] (and_ .i64 (shr_ .i64 x6 (wr (18 - (wr (6 * (k11:Int)))))) 63)).bind fun (x18:UInt8)=>if l10.length+1≤1000000000 then (some (.inl (l10++[(x18.toNat:Int)]))) else none) else none
noncomputable def y0w (s2:Bs) (l10:(List Int)):Option ((Bs×(List Int)) ⊕ (Bs)):=
 (sub? s2 (min 3 (s2.length:Int)) (s2.length:Int)).bind fun (l14:Bs)=>some (.inl (l14,l10))
noncomputable def y0v (x25:Int):Option (Int ⊕ ((Bs×(List Int)) ⊕ (Bs))):=
 some (.inl x25)
noncomputable def z67 (s2:Bs) (k7:Nat) (x6:Int):Option (Int ⊕ ((Bs×(List Int)) ⊕ (Bs))):=
 if decide ((k7:Int) < (min 3 (s2.length:Int))) then ((s2[k7]?).bind fun (x23:UInt8)=>y0v (or_ .i64 (shl_ .i64 x6 8) (IntKind.wrap .i64 (x23.toNat:Int)))) else (y0v (shl_ .i64 x6 8))
noncomputable def y3e (s2:Bs) (l3:(List Int)) (x6:Int):Option ((Bs×(List Int)) ⊕ (Bs)):=
 if (wr ((min 3 (s2.length:Int))+1))≤1000000000 then rng (fun (k:Nat) (s:(List Int))=>y0u x6 k s) (fun (s:(List Int))=>y0w s2 s) ((wr ((min 3 (s2.length:Int))+1)).toNat) 0 l3 else none
noncomputable def y3d (out26:(List Int)):Option (Bs):=
 some (strN out26)
noncomputable def z2i (s2:Bs) (l3:(List Int)):Option ((Bs×(List Int)) ⊕ (Bs)):=
 if decide (0 < (s2.length:Int)) then (if 3≤1000000000 then rng (fun (k:Nat) (s:Int)=>z67 s2 k s) (fun (s:Int)=>y3e s2 l3 s) 3 0 0 else none) else (Option.map .inr (y3d l3))
noncomputable def y0o (s1:Bs):Option (Bs):=
 iter (fun (s:Bs×(List Int))=>z2i s.1 s.2) (s1,[])
noncomputable def y0x (x6:Int) (k11:Nat) (l10:(List Int)):Option ((List Int) ⊕ ((Bs×(List Int)) ⊕ (Bs×Int))):=
 if (0:Int)≤(wr (16 - (wr (8 * (k11:Int))))) then (if l10.length+1≤1000000000 then (some (.inl (l10++[IntKind.wrap .u8 (shr_ .i64 x6 (wr (16 - (wr (8 * (k11:Int))))))]))) else none) else none
noncomputable def y0z (rest2:Bs) (l10:(List Int)):Option ((Bs×(List Int)) ⊕ (Bs×Int)):=
 (sub? rest2 (min 4 (rest2.length:Int)) (rest2.length:Int)).bind fun (l14:Bs)=>some (.inl (l14,l10))
noncomputable def z9r (x26:Int):Option (Int ⊕ ((Bs×(List Int)) ⊕ (Bs×Int))):=
 some (.inl x26)
noncomputable def z35 (rest2:Bs) (k7:Nat) (x6:Int):Option (Int ⊕ ((Bs×(List Int)) ⊕ (Bs×Int))):=
 if decide ((k7:Int) < (min 4 (rest2.length:Int))) then ((rest2[k7]?).bind fun (x21:UInt8)=>(z7k [65,66,67,68,69,70,71,72,73,74,75,76,77,78,79,80,81,82,83,84,85,86,87,88,89,90,97,98,99,100,101,102,103,104,105,106,107,108,109,110,111,112,113,114,115,116,117,118,119,120,121,122,48,49,50,51,52,53,54,55,56,57,45,95] (x21.toNat:Int)).bind fun (r23:(Int))=>if decide (r23 < 0) then (some (.inr (.inr ([],9)))) else (z9r (or_ .i64 (shl_ .i64 x6 6) r23))) else (z9r (shl_ .i64 x6 6))
noncomputable def y3f (rest2:Bs) (l3:(List Int)) (x6:Int):Option ((Bs×(List Int)) ⊕ (Bs×Int)):=
 if (wr ((min 4 (rest2.length:Int)) - 1))≤1000000000 then rng (fun (k:Nat) (s:(List Int))=>y0x x6 k s) (fun (s:(List Int))=>y0z rest2 s) ((wr ((min 4 (rest2.length:Int)) - 1)).toNat) 0 l3 else none
noncomputable def y0y (s1:Bs) (out27:(List Int)):Option (Bs×Int):=
 (y0o (strN out27)).bind fun (r28:(Bs))=>if decide (r28≠s1) then (some ([],9)) else (some ((strN out27),0))
noncomputable def z68 (s1:Bs) (rest2:Bs) (l3:(List Int)):Option ((Bs×(List Int)) ⊕ (Bs×Int)):=
 if decide (0 < (rest2.length:Int)) then (if 4≤1000000000 then rng (fun (k:Nat) (s:Int)=>z35 rest2 k s) (fun (s:Int)=>y3f rest2 l3 s) 4 0 0 else none) else (Option.map .inr (y0y s1 l3))
noncomputable def y33 (s1:Bs):Option (Bs×Int):=
 iter (fun (s:Bs×(List Int))=>z68 s1 s.1 s.2) (s1,[])
noncomputable def y6a (s1:Bs):Option ((List Bs)×Bool):=
 (z3g s1 [10]).bind fun (r2:((List Bs)))=>(at? r2 (wr ((r2.length:Int) - 1))).bind fun (x4:Bs)=>if decide (x4=[]) then ((sub? r2 0 (wr ((r2.length:Int) - 1))).bind fun (l7:(List Bs))=>some (l7,true)) else (some (r2,false))
noncomputable def z8n (v2:Bs) (k3:Nat) (x6:Bs):Option (Unit ⊕ (Int)):=
 if decide (v2=x6) then (some (.inr (k3:Int))) else (some (.inl ()))
noncomputable def z8o:Option (Int):=
 some (-1)
noncomputable def z3f (s1:(List Bs)) (v2:Bs):Option (Int):=
 if s1.length≤1000000000 then forL (fun (k:Nat) (x:Bs) (s:Unit)=>z8n v2 k x) (fun (s:Unit)=>z8o) 0 s1 () else none
noncomputable def z12 (s1:(List Bs)) (v2:Bs):Option (Bool):=
 (z3f s1 v2).bind fun (r3:(Int))=>some (decide (0≤r3))
noncomputable def y59 (s1:Bs):Option ((List Bs)×Bool):=
 (z3g s1 [32]).bind fun (r2:((List Bs)))=>(z12 r2 []).bind fun (r4:(Bool))=>some (r2,!r4)
noncomputable def z1h (s1:z0k) (v2:Bs) (v3:Bool):Option ((List Bs)×z0k):=
 if s1.bad_ then (some ([],s1)) else (if decide (s1.at_=(s1.lines_.length:Int)) then (some ([],(z0k.mk s1.lines_ s1.ended_ s1.at_ v3))) else ((at? s1.lines_ s1.at_).bind fun (x6:Bs)=>(y1l x6 [32]).bind fun (r8:(Bs×Bs×Bool))=>if decide (r8.1≠v2) then (some ([],(z0k.mk s1.lines_ s1.ended_ s1.at_ v3))) else ((y59 r8.2.1).bind fun (r11:((List Bs)×Bool))=>if ((!r11.2) || ((!s1.ended_) && (decide (s1.at_=(wr ((s1.lines_.length:Int) - 1)))))) then (some ([],(z0k.mk s1.lines_ s1.ended_ s1.at_ true))) else (some (r11.1,(z0k.mk s1.lines_ s1.ended_ (wr (s1.at_+1)) s1.bad_))))))
noncomputable def z5y (r4:((List Bs)×z0k)) (c7:Int) (c8:Bool):Option (Bs×z0k):=
 if decide ((r4.1.length:Int)≠1) then (some ([],(z0k.mk r4.2.lines_ r4.2.ended_ c7 c8))) else ((r4.1[0]?).bind fun (x10:Bs)=>some (x10,(z0k.mk r4.2.lines_ r4.2.ended_ c7 c8)))
noncomputable def z1g (s1:z0k) (word2:Bs) (must3:Bool):Option (Bs×z0k):=
 (z1h s1 word2 must3).bind fun (r4:((List Bs)×z0k))=>if decide (1 < (r4.1.length:Int)) then (z5y r4 (wr (r4.2.at_ - 1)) true) else (z5y r4 r4.2.at_ r4.2.bad_)
noncomputable def z6k (k15:Nat) (x18:Int) (v14:Int):Option (Int ⊕ (Int×Int)):=
 if decide (9 < (IntKind.wrap .u8 (x18 - 48))) then (some (.inr (0,2))) else (some (.inl (wr ((wr (v14 * 10))+(IntKind.wrap .i64 (IntKind.wrap .u8 (x18 - 48)))))))
noncomputable def z4q (v23:Int):Option (Int×Int):=
 some (v23,0)
noncomputable def z4t (v1:Bs) (v14:Int):Option (Int×Int):=
 (v1[0]?).bind fun (x19:UInt8)=>if decide ((x19.toNat:Int)=45) then (if -9223372036854775807≤v14∧v14≤9223372036854775807 then (z4q (-v14)) else none) else (z4q v14)
noncomputable def z4s (v1:Bs) (v13:Bs):Option (Int×Int):=
 if (y2o v13).length≤1000000000 then forL (fun (k:Nat) (x:Int) (s:Int)=>z6k k x s) (fun (s:Int)=>z4t v1 s) 0 (y2o v13) 0 else none
noncomputable def z4r (v1:Bs) (v8:Bool):Option (Int×Int):=
 if v8 then ((sub? v1 1 (v1.length:Int)).bind fun (l10:Bs)=>if decide ((l10.length:Int) < 1) then (some (0,2)) else (z4s v1 l10)) else (z4s v1 v1)
noncomputable def z5b (v1:Bs):Option (Int×Int):=
 if ((false && ((decide (0 < (v1.length:Int))) && (decide ((v1.length:Int) < 10)))) || (true && ((decide (0 < (v1.length:Int))) && (decide ((v1.length:Int) < 19))))) then ((v1[0]?).bind fun (x3:UInt8)=>if decide ((x3.toNat:Int)=45) then (z4r v1 true) else (z4r v1 (decide ((x3.toNat:Int)=43)))) else ((z77 v1 10 0).bind fun (r27:(Int×Int))=>some (r27.1,r27.2))
noncomputable def z9l (s1:Bs):Option (Int×Int):=
 (z5b s1).bind fun (r2:(Int×Int))=>if decide (r2.2≠0) then ((y44 [65,116,111,105] s1 0 0 r2.2).bind fun (r5:(Int))=>some (r2.1,r5)) else (some (r2.1,0))
noncomputable def y4r (v29:Bool):Option (Unit ⊕ (Int×Bool)):=
 if v29 then (some (.inr (0,false))) else (some (.inl ()))
noncomputable def y4q (i18:Nat) (x21:UInt8):Option (Unit ⊕ (Int×Bool)):=
 if decide ((x21.toNat:Int) < 48) then (y4r true) else (y4r (decide (57 < (x21.toNat:Int))))
noncomputable def y3s (s1:Bs):Option (Int×Bool):=
 (z9l s1).bind fun (r22:(Int×Int))=>some (r22.1,decide (r22.2=0))
noncomputable def z6f (s1:Bs) (r3:(Bs)) (v16:Bool):Option (Int×Bool):=
 if v16 then (some (0,false)) else (if r3.length≤1000000000 then forL (fun (k:Nat) (x:UInt8) (s:Unit)=>y4q k x) (fun (s:Unit)=>y3s s1) 0 r3 () else none)
noncomputable def y2l (s1:Bs) (most2:Int):Option (Int×Bool):=
 (z8k s1 [45]).bind fun (r3:(Bs))=>if decide (r3=[]) then (z6f s1 r3 true) else (if decide (most2 < (r3.length:Int)) then (z6f s1 r3 true) else ((r3[0]?).bind fun (x9:UInt8)=>if decide ((x9.toNat:Int)=48) then (z6f s1 r3 (decide (s1≠[48]))) else (z6f s1 r3 false)))
noncomputable def z3v (r2:((List Bs)×z0k)):Option (Int×Int×z0k):=
 some (0,0,(z0k.mk r2.2.lines_ r2.2.ended_ (wr (r2.2.at_ - 1)) true))
noncomputable def z2p (s1:z0k):Option (Int×Int×z0k):=
 (z1h s1 [116,105,109,101] true).bind fun (r2:((List Bs)×z0k))=>if r2.2.bad_ then (some (0,0,r2.2)) else (if decide ((r2.1.length:Int)=2) then ((r2.1[0]?).bind fun (x6:Bs)=>(y2l x6 15).bind fun (r8:(Int×Bool))=>(r2.1[1]?).bind fun (x10:Bs)=>(y2l x10 15).bind fun (r12:(Int×Bool))=>if (r8.2 && r12.2) then (some (r8.1,r12.1,r2.2)) else (z3v r2)) else (z3v r2))
noncomputable def z8d (v16:Bool):Option (Unit ⊕ (Int)):=
 if v16 then (some (.inr 7)) else (some (.inl ()))
noncomputable def y26 (l1:(List Bs)) (k2:Nat) (x5:Bs):Option (Unit ⊕ (Int)):=
 (z6p x5).bind fun (r8:(Bool))=>if !r8 then (some (.inr 5)) else (if decide (0 < (k2:Int)) then ((at? l1 ((k2:Int) - 1)).bind fun (x13:Bs)=>z8d (Op.bytesLess x5 x13 || x5 == x13)) else (z8d false))
noncomputable def y4p:Option (Int):=
 some 0
noncomputable def y18 (l1:(List Bs)):Option (Int):=
 if l1.length≤1000000000 then forL (fun (k:Nat) (x:Bs) (s:Unit)=>y26 l1 k x) (fun (s:Unit)=>y4p) 0 l1 () else none
noncomputable def y5i (l1:(List Bs)):Option ((List Bs)):=
 (y1u l1).bind fun (r2:((List Bs)))=>(z3a r2).bind fun (r4:(List Bs))=>(z5a r4).bind fun (r6:((List Bs)))=>some r6
noncomputable def z29 (j6:Int) (i17:Int) (s18:(List Bs)):Option ((Int×Int×(List Bs)) ⊕ ((List Bs))):=
 some (.inl (i17,wr (j6+1),s18))
noncomputable def z4i (i19:Int) (s20:(List Bs)):Option ((List Bs)):=
 if (0:Int)≤i19∧i19 < (s20.length:Int) then (if (0:Int)≤i19∧i19≤((s20.take i19.toNat++List.replicate (s20.length - i19.toNat) []).length:Int) then (some ((s20.take i19.toNat++List.replicate (s20.length - i19.toNat) []).take i19.toNat)) else none) else none
noncomputable def z6z (p1:Bs→Option (Bool)) (i5:Int) (j6:Int) (l7:(List Bs)):Option ((Int×Int×(List Bs)) ⊕ ((List Bs))):=
 if decide (j6 < (l7.length:Int)) then ((at? l7 j6).bind fun (x10:Bs)=>(p1 x10).bind fun (r12:Bool)=>if !r12 then ((at? l7 i5).bind fun (x15:Bs)=>z29 j6 (wr (i5+1)) (l7.set i5.toNat x10)) else (z29 j6 i5 l7)) else (Option.map .inr (z4i i5 l7))
noncomputable def z4v (s1:(List Bs)) (p1:Bs→Option (Bool)):Option ((List Bs)):=
 (z49 s1 p1).bind fun (r2:(Int))=>if decide (r2=(-1)) then some s1 else (iter (fun (s:Int×Int×(List Bs))=>z6z p1 s.1 s.2.1 s.2.2) (r2,wr (r2+1),s1))
noncomputable def y13 (v11:Bool):Option (Bool):=
 some v11
noncomputable def y32 (a1:Bs) (b2:Bs):Option (Bool):=
 if decide (a1=b2) then some true else ((z7l a1 [42]).bind fun (r4:(Bs×Bool))=>if r4.2 then ((y06 b2 r4.1).bind fun (r8:(Bool))=>y13 r8) else (y13 false))
noncomputable def z9z (v8:Bool):Option (Bool):=
 some v8
noncomputable def y17 (h1:Bs) (c2:Bs):Option (Bool):=
 if decide (h1≠c2) then ((y32 h1 c2).bind fun (r5:(Bool))=>z9z r5) else (z9z false)
noncomputable def y3i (s1:Bs) (c2:(List Bs)):Option (Bool):=
 (z11 c2 (fun (a0:Bs)=>y17 a0 s1)).bind fun (r3:(Bool))=>some r3
noncomputable def y4m (l1:(List Bs)):Option ((List Bs)):=
 (y5i l1).bind fun (r2:((List Bs)))=>(y1u r2).bind fun (r4:((List Bs)))=>(z4v r4 (fun (a0:Bs)=>y3i a0 r2)).bind fun (r6:((List Bs)))=>some r6
noncomputable def z3s (v1:z0e) (v22:Bool):Option (Int):=
 if v22 then some 5 else (if decide (50 < (v1.Audience.length:Int)) then some 2 else ((y18 v1.Audience).bind fun (r25:(Int))=>if decide (r25≠0) then some r25 else ((z88 v1.Scopes).bind fun (r28:(Int))=>if decide (r28≠0) then some r28 else ((y4m v1.Scopes).bind fun (r31:((List Bs)))=>(z2d v1.Scopes r31).bind fun (r33:(Bool))=>if !r33 then some 7 else (if (((decide (v1.From < 0)) || (decide (v1.To≤v1.From))) || (decide (345686400000 < v1.To))) then some 1 else some 0)))))
noncomputable def z9a (v1:z0e):Option (Int):=
 (z6p v1.Id).bind fun (r2:(Bool))=>if !r2 then (z3s v1 true) else ((z6p v1.Subject).bind fun (r6:(Bool))=>if !r6 then (z3s v1 true) else ((z6p v1.Issuer).bind fun (r10:(Bool))=>if !r10 then (z3s v1 true) else (if decide (v1.Parent≠[]) then ((z6p v1.Parent).bind fun (r16:(Bool))=>z3s v1 (!r16)) else (z3s v1 false))))
noncomputable def y1k (v1:Bs):Option (z0e×Int×Int):=
 if decide (4000 < (v1.length:Int)) then (some ((z0e.mk [] [] [] [] [] [] 0 0),0,2)) else ((y6a v1).bind fun (r3:((List Bs)×Bool))=>(z1g (z0k.mk r3.1 r3.2 0 false) [105,100] true).bind fun (r5:(Bs×z0k))=>(z1g r5.2 [115,117,98,106,101,99,116] true).bind fun (r7:(Bs×z0k))=>(z1g r7.2 [105,115,115,117,101,114] true).bind fun (r9:(Bs×z0k))=>(z1g r9.2 [112,97,114,101,110,116] false).bind fun (r11:(Bs×z0k))=>(z1h r11.2 [102,111,114] false).bind fun (r13:((List Bs)×z0k))=>(z1h r13.2 [109,97,121] false).bind fun (r15:((List Bs)×z0k))=>(z2p r15.2).bind fun (r17:(Int×Int×z0k))=>if (r17.2.2.bad_ || (decide (r17.2.2.at_ < (r17.2.2.lines_.length:Int)))) then (some ((z0e.mk [] [] [] [] [] [] 0 0),r17.2.2.at_,9)) else ((z9a (z0e.mk r5.1 r7.1 r9.1 r11.1 r13.1 r15.1 r17.1 r17.2.1)).bind fun (r20:(Int))=>if decide (r20≠0) then (some ((z0e.mk [] [] [] [] [] [] 0 0),0,r20)) else (some ((z0e.mk r5.1 r7.1 r9.1 r11.1 r13.1 r15.1 r17.1 r17.2.1),0,0))))
noncomputable def y3n (r40:(z0e×Int×Int)) (v46:Bool):Option (z0e×Int):=
 if v46 then (some ((z0e.mk [] [] [] [] [] [] 0 0),11)) else (some (r40.1,0))
noncomputable def y1f (v1:(List z0i)) (v3:Int) (r10:((List Bs))) (v19:Bool):Option (z0e×Int):=
 if v19 then (some ((z0e.mk [] [] [] [] [] [] 0 0),9)) else ((z1n v1 (fun (a0:z0i)=>y22 a0 r10)).bind fun (r21:(Int))=>if decide (r21 < 0) then (some ((z0e.mk [] [] [] [] [] [] 0 0),8)) else ((at? v1 r21).bind fun (x24:z0i)=>(r10[0]?).bind fun (x26:Bs)=>if x26.length+[46].length≤1000000000 then ((r10[1]?).bind fun (x29:Bs)=>if (x26++[46]).length+x29.length≤1000000000 then ((y43 x24.Secret ((x26++[46])++x29)).bind fun (r32:(Bs))=>(r10[2]?).bind fun (x34:Bs)=>if decide (r32≠x34) then (some ((z0e.mk [] [] [] [] [] [] 0 0),15)) else ((y33 x29).bind fun (r37:(Bs×Int))=>if decide (r37.2≠0) then (some ((z0e.mk [] [] [] [] [] [] 0 0),r37.2)) else ((y1k r37.1).bind fun (r40:(z0e×Int×Int))=>if decide (r40.2.2≠0) then (some ((z0e.mk [] [] [] [] [] [] 0 0),r40.2.2)) else (if decide (v3 < x24.From) then (y3n r40 true) else (y3n r40 (decide (x24.Until≤v3))))))) else none) else none))
noncomputable def y5h (v1:(List z0i)) (v2:Bs) (v3:Int):Option (z0e×Int):=
 (z8i v1).bind fun (r4:(Int))=>if decide (r4≠0) then (some ((z0e.mk [] [] [] [] [] [] 0 0),r4)) else ((y04 v3).bind fun (r7:(Int))=>if decide (r7≠0) then (some ((z0e.mk [] [] [] [] [] [] 0 0),r7)) else ((z3g v2 [46]).bind fun (r10:((List Bs)))=>if decide ((r10.length:Int)≠3) then (y1f v1 v3 r10 true) else ((r10[0]?).bind fun (x14:Bs)=>(z6p x14).bind fun (r16:(Bool))=>y1f v1 v3 r10 (!r16))))
noncomputable def z4f (p1:z0u→Option (Bool)) (k2:Nat) (x5:z0u):Option (Unit ⊕ (Int)):=
 (p1 x5).bind fun (r8:Bool)=>if r8 then (some (.inr (k2:Int))) else (some (.inl ()))
noncomputable def z4g:Option (Int):=
 some (-1)
noncomputable def z4o (s1:(List z0u)) (p1:z0u→Option (Bool)):Option (Int):=
 if s1.length≤1000000000 then forL (fun (k:Nat) (x:z0u) (s:Unit)=>z4f p1 k x) (fun (s:Unit)=>z4g) 0 s1 () else none
noncomputable def z1p (s1:(List z0u)) (p1:z0u→Option (Bool)):Option (Bool):=
 (z4o s1 p1).bind fun (r2:(Int))=>some (decide (0≤r2))
noncomputable def y2v (r1:z0u) (c2:z0e) (c3:Int):Option (Bool):=
 some (((decide (r1.Id=c2.Id)) || (decide (r1.Id=c2.Parent))) && (decide (r1.At≤c3)))
noncomputable def z9q (v1:z1t) (v3:Int) (r4:(z0e×Int)) (v15:Bool):Option (z0e×Int):=
 if v15 then (some ((z0e.mk [] [] [] [] [] [] 0 0),16)) else (if ((decide (v3 < (wr (r4.1.From - v1.Skew)))) || (decide ((wr (r4.1.To+v1.Skew))≤v3))) then (some ((z0e.mk [] [] [] [] [] [] 0 0),11)) else ((z1p v1.Revoked (fun (a0:z0u)=>y2v a0 r4.1 v3)).bind fun (r18:(Bool))=>if r18 then (some ((z0e.mk [] [] [] [] [] [] 0 0),13)) else (some (r4.1,0))))
noncomputable def y1t (v1:z1t) (v2:Bs) (v3:Int):Option (z0e×Int):=
 (y5h v1.Signers v2 v3).bind fun (r4:(z0e×Int))=>if decide (r4.2≠0) then (some ((z0e.mk [] [] [] [] [] [] 0 0),r4.2)) else (if decide (r4.1.Issuer≠v1.Issuer) then (z9q v1 v3 r4 true) else (if decide (0 < (r4.1.Audience.length:Int)) then ((z12 r4.1.Audience v1.Audience).bind fun (r11:(Bool))=>z9q v1 v3 r4 (!r11)) else (z9q v1 v3 r4 false)))
noncomputable def y34 (k1:z1t) (s2:Bs) (v3:Int):Option (z0e×Int):=
 (z89 k1).bind fun (r4:(Int))=>if decide (r4≠0) then (some ((z0e.mk [] [] [] [] [] [] 0 0),r4)) else ((y1t k1 s2 v3).bind fun (r7:(z0e×Int))=>some (r7.1,r7.2))
noncomputable def z9c (x1:z0i) (c2:(List Bs)):Option (Bool):=
 (c2[0]?).bind fun (x3:Bs)=>some (decide (x1.Id=x3))
noncomputable def z7p (s1:Bs) (out18:(List Int)):Option (Bs×Int):=
 (z61 (strN out18)).bind fun (r19:(Bs))=>if decide (r19≠s1) then (some ([],9)) else (some ((strN out18),0))
noncomputable def z1s (s1:Bs) (bits7:Bs) (l8:(List Int)):Option ((Bs×(List Int)) ⊕ (Bs×Int)):=
 if decide (8≤(bits7.length:Int)) then ((sub? bits7 0 8).bind fun (l11:Bs)=>(z60 l11 2 64).bind fun (r13:(Int×Int))=>if l8.length+1≤1000000000 then ((sub? bits7 8 (bits7.length:Int)).bind fun (l16:Bs)=>some (.inl (l16,(l8++[IntKind.wrap .u8 r13.1])))) else none) else (Option.map .inr (z7p s1 l8))
noncomputable def z5h (k3:Nat) (x6:UInt8) (bits2:Bs):Option (Bs ⊕ (Bs×Int)):=
 (z7k [65,66,67,68,69,70,71,72,73,74,75,76,77,78,79,80,81,82,83,84,85,86,87,88,89,90,97,98,99,100,101,102,103,104,105,106,107,108,109,110,111,112,113,114,115,116,117,118,119,120,121,122,48,49,50,51,52,53,54,55,56,57,45,95] (x6.toNat:Int)).bind fun (r24:(Int))=>if decide (r24 < 0) then (some (.inr ([],9))) else ((z6o (wr (64+r24)) 2).bind fun (r27:(Bs))=>(sub? r27 1 (r27.length:Int)).bind fun (l29:Bs)=>if bits2.length+l29.length≤1000000000 then (some (.inl (bits2++l29))) else none)
noncomputable def z7q (s1:Bs) (bits2:Bs):Option (Bs×Int):=
 iter (fun (s:Bs×(List Int))=>z1s s1 s.1 s.2) (bits2,[])
noncomputable def y1o (s1:Bs):Option (Bs×Int):=
 if s1.length≤1000000000 then forL (fun (k:Nat) (x:UInt8) (s:Bs)=>z5h k x s) (fun (s:Bs)=>z7q s1 s) 0 s1 [] else none
noncomputable def z6t (s1:Bs):Option (Bool):=
 some (((decide (s1≠[112,97,114,101,110,116])) && (decide (s1≠[102,111,114]))) && (decide (s1≠[109,97,121])))
noncomputable def z95 (r15:(Int×Int)) (v22:Bool):Option (Int×Bool):=
 some (r15.1,v22)
noncomputable def z38 (s1:Bs) (v13:Bool):Option (Int×Bool):=
 if v13 then (some (0,false)) else ((z9l s1).bind fun (r15:(Int×Int))=>if decide (r15.2=0) then ((y0p r15.1).bind fun (r19:(Bs))=>z95 r15 (decide (r19=s1))) else (z95 r15 false))
noncomputable def z7t (s1:Bs) (most2:Int):Option (Int×Bool):=
 (z8k s1 [45]).bind fun (r3:(Bs))=>if decide (r3=[]) then (z38 s1 true) else (if decide (most2 < (r3.length:Int)) then (z38 s1 true) else ((z78 r3 [48,49,50,51,52,53,54,55,56,57]).bind fun (r9:(Bool))=>z38 s1 (!r9)))
noncomputable def z9m (s1:z0e) (v2:(List Bs)):Option (Bool×z0e):=
 (v2[0]?).bind fun (x3:Bs)=>if decide (x3=[102,111,114]) then ((sub? v2 1 (v2.length:Int)).bind fun (l6:(List Bs))=>some (decide (1 < (v2.length:Int)),(z0e.mk s1.Id s1.Subject s1.Issuer s1.Parent l6 s1.Scopes s1.From s1.To))) else (if decide (x3=[109,97,121]) then ((sub? v2 1 (v2.length:Int)).bind fun (l9:(List Bs))=>some (decide (1 < (v2.length:Int)),(z0e.mk s1.Id s1.Subject s1.Issuer s1.Parent s1.Audience l9 s1.From s1.To))) else (if decide (x3=[116,105,109,101]) then (if decide ((v2.length:Int)≠3) then (some (false,s1)) else ((v2[1]?).bind fun (x13:Bs)=>(z7t x13 15).bind fun (r15:(Int×Bool))=>(v2[2]?).bind fun (x17:Bs)=>(z7t x17 15).bind fun (r19:(Int×Bool))=>some ((r15.2 && r19.2),(z0e.mk s1.Id s1.Subject s1.Issuer s1.Parent s1.Audience s1.Scopes r15.1 r19.1)))) else (if decide ((v2.length:Int)≠2) then (some (false,s1)) else (if [105,100].length≤1000000000 then (if [115,117,98,106,101,99,116].length≤1000000000 then (if [105,115,115,117,101,114].length≤1000000000 then (if [112,97,114,101,110,116].length≤1000000000 then (if x3.length≤1000000000 then ((v2[1]?).bind fun (x27:Bs)=>if z66 ((lkG ([([105,100],(0:Int)),([115,117,98,106,101,99,116],(1:Int)),([105,115,115,117,101,114],(2:Int)),([112,97,114,101,110,116],(3:Int))]:List (Bs×Int)) x3).getD (-1))=true then ((some (y23 s1 ((lkG ([([105,100],(0:Int)),([115,117,98,106,101,99,116],(1:Int)),([105,115,115,117,101,114],(2:Int)),([112,97,114,101,110,116],(3:Int))]:List (Bs×Int)) x3).getD (-1)) x27)).bind fun (c30:z0e)=>some (true,c30)) else none) else none) else none) else none) else none) else none))))
noncomputable def z2y (v5:Int) (r17:(Bs×Bs×Bool)) (r23:(Int)) (v45:Bool) (c46:Bs) (c47:Bs) (c48:Bs) (c49:Bs) (c50:(List Bs)) (c51:(List Bs)) (c52:Int) (c53:Int):Option ((Bs×Int×Int×Bs×Bs×Bs×Bs×(List Bs)×(List Bs)×Int×Int) ⊕ (z0e×Int×Int)):=
 if v45 then (some (.inr ((z0e.mk [] [] [] [] [] [] 0 0),v5,9))) else (some (.inl (r17.2.1,wr (r23+1),wr (v5+1),c46,c47,c48,c49,c50,c51,c52,c53)))
noncomputable def z83 (c55:Bs) (c56:Bs) (c57:Bs) (c58:Bs) (c59:(List Bs)) (c60:(List Bs)) (c61:Int) (c62:Int):Option (z0e×Int×Int):=
 (z6b (z0e.mk c55 c56 c57 c58 c59 c60 c61 c62)).bind fun (r63:(Int))=>if decide (r63≠0) then (some ((z0e.mk [] [] [] [] [] [] 0 0),0,r63)) else (some ((z0e.mk c55 c56 c57 c58 c59 c60 c61 c62),0,0))
noncomputable def z2k (v3:Bs) (v4:Int) (v5:Int) (c6:Bs) (c7:Bs) (c8:Bs) (c9:Bs) (c10:(List Bs)) (c11:(List Bs)) (c12:Int) (c13:Int):Option ((Bs×Int×Int×Bs×Bs×Bs×Bs×(List Bs)×(List Bs)×Int×Int) ⊕ (z0e×Int×Int)):=
 if decide (v3=[]) then (if decide (v4=(([[105,100],[115,117,98,106,101,99,116],[105,115,115,117,101,114],[112,97,114,101,110,116],[102,111,114],[109,97,121],[116,105,109,101]]).length:Int)) then (Option.map .inr (z83 c6 c7 c8 c9 c10 c11 c12 c13)) else (some (.inr ((z0e.mk [] [] [] [] [] [] 0 0),v5,9)))) else ((y1l v3 [10]).bind fun (r17:(Bs×Bs×Bool))=>(z3g r17.1 [32]).bind fun (r19:((List Bs)))=>(r19[0]?).bind fun (x21:Bs)=>(z3f ([[105,100],[115,117,98,106,101,99,116],[105,115,115,117,101,114],[112,97,114,101,110,116],[102,111,114],[109,97,121],[116,105,109,101]]) x21).bind fun (r23:(Int))=>(sub? ([[105,100],[115,117,98,106,101,99,116],[105,115,115,117,101,114],[112,97,114,101,110,116],[102,111,114],[109,97,121],[116,105,109,101]]) v4 (max r23 v4)).bind fun (l25:(List Bs))=>(z11 l25 (fun (a0:Bs)=>z6t a0)).bind fun (r27:(Bool))=>if !r17.2.2 then (z2y v5 r17 r23 true c6 c7 c8 c9 c10 c11 c12 c13) else (if decide (r23 < v4) then (z2y v5 r17 r23 true c6 c7 c8 c9 c10 c11 c12 c13) else (if r27 then (z2y v5 r17 r23 true c6 c7 c8 c9 c10 c11 c12 c13) else ((z12 r19 []).bind fun (r35:(Bool))=>if r35 then (z2y v5 r17 r23 true c6 c7 c8 c9 c10 c11 c12 c13) else ((z9m (z0e.mk c6 c7 c8 c9 c10 c11 c12 c13) r19).bind fun (r39:(Bool×z0e))=>z2y v5 r17 r23 (!r39.1) r39.2.Id r39.2.Subject r39.2.Issuer r39.2.Parent r39.2.Audience r39.2.Scopes r39.2.From r39.2.To)))))
noncomputable def z9u (v1:Bs):Option (z0e×Int×Int):=
 if decide (4000 < (v1.length:Int)) then (some ((z0e.mk [] [] [] [] [] [] 0 0),0,2)) else (iter (fun (s:Bs×Int×Int×Bs×Bs×Bs×Bs×(List Bs)×(List Bs)×Int×Int)=>z2k s.1 s.2.1 s.2.2.1 s.2.2.2.1 s.2.2.2.2.1 s.2.2.2.2.2.1 s.2.2.2.2.2.2.1 s.2.2.2.2.2.2.2.1 s.2.2.2.2.2.2.2.2.1 s.2.2.2.2.2.2.2.2.2.1 s.2.2.2.2.2.2.2.2.2.2) (v1,0,0,[],[],[],[],([]:(List Bs)),([]:(List Bs)),0,0))
noncomputable def z94 (r37:(z0e×Int×Int)) (v47:Int):Option (z0e×Int):=
 if decide (v47≠0) then (some ((z0e.mk [] [] [] [] [] [] 0 0),v47)) else (some (r37.1,0))
noncomputable def z8e (r37:(z0e×Int×Int)) (v45:Bool):Option (z0e×Int):=
 if v45 then (z94 r37 11) else (z94 r37 r37.2.2)
noncomputable def z64 (v1:(List z0i)) (v3:Int) (r7:((List Bs))) (v16:Bool):Option (z0e×Int):=
 if v16 then (some ((z0e.mk [] [] [] [] [] [] 0 0),9)) else ((z1n v1 (fun (a0:z0i)=>z9c a0 r7)).bind fun (r18:(Int))=>if decide (r18 < 0) then (some ((z0e.mk [] [] [] [] [] [] 0 0),8)) else ((at? v1 r18).bind fun (x21:z0i)=>(r7[0]?).bind fun (x23:Bs)=>if x23.length+[46].length≤1000000000 then ((r7[1]?).bind fun (x26:Bs)=>if (x23++[46]).length+x26.length≤1000000000 then ((z4l x21.Secret ((x23++[46])++x26)).bind fun (r29:(Bs))=>(r7[2]?).bind fun (x31:Bs)=>if decide (r29≠x31) then (some ((z0e.mk [] [] [] [] [] [] 0 0),15)) else ((y1o x26).bind fun (r34:(Bs×Int))=>if decide (r34.2≠0) then (some ((z0e.mk [] [] [] [] [] [] 0 0),r34.2)) else ((z9u r34.1).bind fun (r37:(z0e×Int×Int))=>if decide (r37.2.2=0) then (if decide (x21.From≤v3) then (z8e r37 (!(decide (v3 < x21.Until)))) else (z8e r37 (!false))) else (z8e r37 false)))) else none) else none))
noncomputable def y19 (v1:(List z0i)) (v2:Bs) (v3:Int):Option (z0e×Int):=
 (y2a v3).bind fun (r4:(Bool))=>if !r4 then (some ((z0e.mk [] [] [] [] [] [] 0 0),1)) else ((z3g v2 [46]).bind fun (r7:((List Bs)))=>if decide ((r7.length:Int)≠3) then (z64 v1 v3 r7 true) else ((r7[0]?).bind fun (x11:Bs)=>(z3d x11).bind fun (r13:(Bool))=>z64 v1 v3 r7 (!r13)))
noncomputable def z9v (r1:z0u) (c2:z0e) (c3:Int):Option (Bool):=
 some (((decide (r1.Id=c2.Id)) || (decide (r1.Id=c2.Parent))) && (decide (r1.At≤c3)))
noncomputable def z58 (v1:z1t) (v3:Int) (r4:(z0e×Int)) (v15:Bool):Option (z0e×Int):=
 if v15 then (some ((z0e.mk [] [] [] [] [] [] 0 0),16)) else (if ((decide (v3 < (wr (r4.1.From - v1.Skew)))) || (decide ((wr (r4.1.To+v1.Skew))≤v3))) then (some ((z0e.mk [] [] [] [] [] [] 0 0),11)) else ((z1p v1.Revoked (fun (a0:z0u)=>z9v a0 r4.1 v3)).bind fun (r18:(Bool))=>if r18 then (some ((z0e.mk [] [] [] [] [] [] 0 0),13)) else (some (r4.1,0))))
noncomputable def y07 (v1:z1t) (v2:Bs) (v3:Int):Option (z0e×Int):=
 (y19 v1.Signers v2 v3).bind fun (r4:(z0e×Int))=>if decide (r4.2≠0) then (some ((z0e.mk [] [] [] [] [] [] 0 0),r4.2)) else (if decide (r4.1.Issuer≠v1.Issuer) then (z58 v1 v3 r4 true) else (if decide (0 < (r4.1.Audience.length:Int)) then ((z12 r4.1.Audience v1.Audience).bind fun (r11:(Bool))=>z58 v1 v3 r4 (!r11)) else (z58 v1 v3 r4 false)))
noncomputable def z3h (v19:Bool):Option (Bool):=
 some v19
noncomputable def z7s (a1:z0e) (b2:z0e):Option (Bool):=
 if ((a1.Id == b2.Id) && ((a1.Subject == b2.Subject) && ((a1.Issuer == b2.Issuer) && ((a1.Parent == b2.Parent) && true)))) then ((z2d a1.Audience b2.Audience).bind fun (r5:(Bool))=>if r5 then ((z2d a1.Scopes b2.Scopes).bind fun (r9:(Bool))=>if r9 then (if decide (a1.From=b2.From) then (z3h (decide (a1.To=b2.To))) else (z3h false)) else (z3h false)) else (z3h false)) else (z3h false)
noncomputable def y2b  : Option (Bool):=
 (y0o [97,98]).bind fun (r1:(Bs))=>some (decide (r1=[89,87,73]))
noncomputable def z3x (v51:Bool):Option (Bool):=
 some v51
noncomputable def z3y (r27:(z0e×Int)) (v32:Int) (c33:Bs) (c34:Bs) (c35:Bs) (c36:Bs) (c37:(List Bs)) (c38:(List Bs)) (c39:Int) (c40:Int):Option (Bool):=
 if decide (r27.2=v32) then ((z7s r27.1 (z0e.mk c33 c34 c35 c36 c37 c38 c39 c40)).bind fun (r43:(Bool))=>if r43 then ((y2b ).bind fun (r47:(Bool))=>z3x r47) else (z3x false)) else (z3x false)
noncomputable def z3z (r2:(z1t×z0d)) (r4:(Int×z0d)) (r6:(Int)) (v26:Bs):Option (Bool):=
 (y34 r2.1 v26 r4.1).bind fun (r27:(z0e×Int))=>if decide (r6=0) then ((y07 r2.1 v26 r4.1).bind fun (r30:(z0e×Int))=>z3y r27 r30.2 r30.1.Id r30.1.Subject r30.1.Issuer r30.1.Parent r30.1.Audience r30.1.Scopes r30.1.From r30.1.To) else (z3y r27 r6 [] [] [] [] ([]:(List Bs)) ([]:(List Bs)) 0 0)
noncomputable def z47 (r2:(z1t×z0d)) (r4:(Int×z0d)) (r6:(Int)) (v17:Bool):Option (Bool):=
 if v17 then some false else (if decide (r6=0) then ((z32 r4.2).bind fun (r20:(z0e×z0d))=>(z1i r20.2 [10,60,100]).bind fun (r22:(Int×z0d))=>(z5p r22.2 r2.1.Signers r20.1 r22.1).bind fun (r24:(Bs×z0d))=>z3z r2 r4 r6 r24.1) else (z3z r2 r4 r6 [115,49,46,120,46,121]))
noncomputable def z9n (v1:(List Int)):Option (Bool):=
 (z7x (z0d.mk v1 0)).bind fun (r2:(z1t×z0d))=>(z7w r2.2).bind fun (r4:(Int×z0d))=>(z82 r2.1).bind fun (r6:(Int))=>(z8j r2.1.Holders).bind fun (r8:(Int))=>(z6s r2.1.Holders).bind fun (r10:(Int))=>if decide (r8≠r10) then (z47 r2 r4 r6 true) else ((z89 r2.1).bind fun (r14:(Int))=>z47 r2 r4 r6 (decide (r14≠r6)))
end Go.Proofs.YtndabcepiekebaaGreatDoor
