/- Plain models of functions. Printed by a program. -/
import Derived.Test.YtndabcepiekebaaGreatDoorMc
import Derived.Test.YtndabcepiekebaaGreatDoorRng
import Derived.Test.YtndabcepiekebaaGreatDoorMl
namespace Go.Proofs.YtndabcepiekebaaGreatDoor
set_option linter.unusedVariables false
set_option maxRecDepth 20000
structure zt where
 L:(List Int)
 at_:Int
structure ya where
 Id:Bs
 Secret:Bs
 From:Int
 To:Int
 Until:Int
structure qf where
 Id:Bs
 At:Int
 Until:Int
structure yr where
 App:Bs
 Sum:Bs
 Scopes:(List Bs)
 From:Int
 To:Int
structure wo where
 Issuer:Bs
 Audience:Bs
 Signers:(List ya)
 Revoked:(List qf)
 Holders:(List yr)
 Skew:Int
structure qo where
 Name:Bs
 Value:Bs
structure wj where
 At:Int
 Method:Bs
 Host:Bs
 Path:Bs
 Query:Bs
 From:Bs
 Headers:(List qo)
 Body:Bs
structure zm where
 Id:Bs
 Subject:Bs
 Issuer:Bs
 Parent:Bs
 Audience:(List Bs)
 Scopes:(List Bs)
 From:Int
 To:Int
structure yl where
 By:Int
 Name:Bs
 Scopes:(List Bs)
structure qi where
 lines_:(List Bs)
 ended_:Bool
 at_:Int
 bad_:Bool
def z7f (x:Int):Bool:=decide (x=0) || decide (x=1) || decide (x=2) || decide (x=3)
def y64 (c:zm) (x:Int) (y:Bs):zm:=if x=0 then zm.mk y c.Subject c.Issuer c.Parent c.Audience c.Scopes c.From c.To else if x=1 then zm.mk c.Id y c.Issuer c.Parent c.Audience c.Scopes c.From c.To else if x=2 then zm.mk c.Id c.Subject y c.Parent c.Audience c.Scopes c.From c.To else if x=3 then zm.mk c.Id c.Subject c.Issuer y c.Audience c.Scopes c.From c.To else c
noncomputable def z65 (x6:Int):Option (Int):=
 some x6
noncomputable def z2c (x1:Int) (n2:Int):Option (Int):=
 if decide (n2 < 1) then some 0 else (if n2≠0 then (if decide ((Int.tmod x1 n2) < 0) then (z65 (wr ((Int.tmod x1 n2)+n2))) else (z65 (Int.tmod x1 n2))) else none)
noncomputable def uf (s1:zt) (n2:Int):Option (Int×zt):=
 if decide ((s1.L.length:Int)=0) then ((z2c (wr ((wr (s1.at_+1)) * 7919)) n2).bind fun r4=>some (r4,(zt.mk s1.L (wr (s1.at_+1))))) else (if (s1.L.length:Int)≠0 then (if ((0:Int)≤(wr ((wr (s1.at_+1)) - 1))∧(wr ((wr (s1.at_+1)) - 1))≤9223372036854775807)∧(0:Int) < (s1.L.length:Int) then ((at? s1.L (Int.tmod (wr ((wr (s1.at_+1)) - 1)) (s1.L.length:Int))).bind fun (x8:Int)=>(z2c x8 1073741824).bind fun r10=>(z2c (wr (r10+(wr (((wr ((wr (s1.at_+1)) - 1)) / (s1.L.length:Int)) * (wr (7919+(Int.tmod (wr ((wr (s1.at_+1)) - 1)) (s1.L.length:Int)))))))) n2).bind fun r12=>some (r12,(zt.mk s1.L (wr (s1.at_+1))))) else none) else none)
noncomputable def z0d (s1:zt) (low2:Int) (high3:Int):Option (Int×zt):=
 if decide (high3 < low2) then (some (low2,s1)) else ((uf s1 (wr ((wr (high3 - low2))+1))).bind fun r5=>some (wr (low2+r5.1),r5.2))
noncomputable def kh (s1:zt) (l2:(List Int)):Option (Int×zt):=
 (uf s1 (l2.length:Int)).bind fun r3=>(at? l2 r3.1).bind fun (x5:Int)=>some (x5,r3.2)
noncomputable def ja (s1:zt) (l2:(List Bs)):Option (Bs×zt):=
 (uf s1 (l2.length:Int)).bind fun r3=>(at? l2 r3.1).bind fun (x5:Bs)=>some (x5,r3.2)
noncomputable def jx (s1:zt) (n2:Int):Option (Bool×zt):=
 (uf s1 n2).bind fun r3=>some (decide (r3.1=0),r3.2)
noncomputable def y5k (k10:Nat) (x13:Bs) (v6:Int) (c7:(List Int)) (c8:Int) (l9:(List ya)):Option ((Int×(List Int)×Int×(List ya)) ⊕ ((List ya)×zt)):=
 (kh (zt.mk c7 c8) [0,10,50,100]).bind fun r16=>(ja r16.2 ([[111,110,101],[116,119,111],[107,33]])).bind fun r18=>(kh r18.2 [0,10,100,200]).bind fun r20=>(kh r20.2 [0,5,100,1000]).bind fun r22=>if l9.length+1≤1000000000 then (some (.inl (wr (v6+r16.1),r22.2.L,r22.2.at_,(l9++[(ya.mk x13 r18.1 (wr (v6+r16.1)) (wr ((wr (v6+r16.1))+r20.1)) (wr ((wr ((wr (v6+r16.1))+r20.1))+r22.1)))])))) else none
noncomputable def y89 (v6:Int) (c7:(List Int)) (c8:Int) (l9:(List ya)):Option ((List ya)×zt):=
 some (l9,(zt.mk c7 c8))
noncomputable def z99 (s1:zt):Option ((List ya)×zt):=
 (z0d s1 0 3).bind fun r2=>(sub? ([[115,49],[115,50],[115,51]]) 0 r2.1).bind fun (l4:(List Bs))=>if l4.length≤1000000000 then forL (fun (k:Nat) (x:Bs) (s:Int×(List Int)×Int×(List ya))=>y5k k x s.1 s.2.1 s.2.2.1 s.2.2.2) (fun (s:Int×(List Int)×Int×(List ya))=>y89 s.1 s.2.1 s.2.2.1 s.2.2.2) 0 l4 (0,r2.2.L,r2.2.at_,[]) else none
noncomputable def z96 (s1:zt):Option (Bs×zt):=
 (Zh [115] 101).bind fun r2=>(ja s1 ([[111,110,101],[116,119,111],[116,104,114,101,101],[107,33],[111,110,101],[],[97,32,98],[127],r2])).bind fun r4=>some (r4.1,r4.2)
noncomputable def Yf (s1:zt) (low2:Int) (high3:Int):Option (Int×zt):=
 (jx s1 12).bind fun r4=>if r4.1 then ((kh r4.2 [wr (low2 - 1),wr (high3+1),low2,high3,(-1099511627776),1099511627776]).bind fun r7=>some (r7.1,r7.2)) else ((z0d r4.2 low2 high3).bind fun r9=>some (r9.1,r9.2))
noncomputable def z0q (out29:(List ya)) (c30:(List Int)) (c31:Int):Option ((List ya)×zt):=
 some (out29,(zt.mk c30 c31))
noncomputable def z3d (r2:((List ya)×zt)) (v9:Bool) (c10:(List Int)) (c11:Int):Option ((List ya)×zt):=
 if v9 then ((uf (zt.mk c10 c11) (r2.1.length:Int)).bind fun r13=>(at? r2.1 r13.1).bind fun (x15:ya)=>(uf r13.2 3).bind fun r17=>if decide (r17.1=0) then ((ja r17.2 ([[],[65],[115,49]])).bind fun r20=>z0q (r2.1.set r13.1.toNat (ya.mk r20.1 x15.Secret x15.From x15.To x15.Until)) r20.2.L r20.2.at_) else (if decide (r17.1=1) then ((z96 r17.2).bind fun r23=>z0q (r2.1.set r13.1.toNat (ya.mk x15.Id r23.1 x15.From x15.To x15.Until)) r23.2.L r23.2.at_) else ((Yf r17.2 0 300).bind fun r25=>(Yf r25.2 0 300).bind fun r27=>z0q ((r2.1.set r13.1.toNat (ya.mk x15.Id x15.Secret r25.1 x15.To x15.Until)).set r13.1.toNat (ya.mk x15.Id x15.Secret r25.1 r27.1 x15.Until)) r27.2.L r27.2.at_))) else (z0q r2.1 c10 c11)
noncomputable def z95 (s1:zt):Option ((List ya)×zt):=
 (z99 s1).bind fun r2=>if decide (0 < (r2.1.length:Int)) then ((jx r2.2 12).bind fun r6=>z3d r2 r6.1 r6.2.L r6.2.at_) else (z3d r2 false r2.2.L r2.2.at_)
noncomputable def z6z (out19:(List qf)) (c20:(List Int)) (c21:Int):Option ((List qf)×zt):=
 some (out19,(zt.mk c20 c21))
noncomputable def z6y (out32:(List qf)) (c33:(List Int)) (c34:Int):Option (((List Int)×Int×(List qf)) ⊕ ((List qf)×zt)):=
 some (.inl (c33,c34,out32))
noncomputable def y5n (k5:Nat) (x8:Bs) (c2:(List Int)) (c3:Int) (l4:(List qf)):Option (((List Int)×Int×(List qf)) ⊕ ((List qf)×zt)):=
 (jx (zt.mk c2 c3) 3).bind fun r24=>if r24.1 then ((kh r24.2 [0,60,100]).bind fun r27=>(kh r27.2 [0,50,200]).bind fun r29=>if l4.length+1≤1000000000 then (z6y (l4++[(qf.mk x8 r27.1 (wr (r27.1+r29.1)))]) r29.2.L r29.2.at_) else none) else (z6y l4 r24.2.L r24.2.at_)
noncomputable def y5o (c2:(List Int)) (c3:Int) (l4:(List qf)):Option ((List qf)×zt):=
 (jx (zt.mk c2 c3) 15).bind fun r9=>if r9.1 then ((ja r9.2 ([[],[116,49],[116,57]])).bind fun r12=>(Yf r12.2 0 50).bind fun r14=>(Yf r14.2 50 300).bind fun r16=>if l4.length+1≤1000000000 then (z6z (l4++[(qf.mk r12.1 r14.1 r16.1)]) r16.2.L r16.2.at_) else none) else (z6z l4 r9.2.L r9.2.at_)
noncomputable def y0b (s1:zt):Option ((List qf)×zt):=
 if ([[116,48],[116,49],[116,50]]).length≤1000000000 then forL (fun (k:Nat) (x:Bs) (s:(List Int)×Int×(List qf))=>y5n k x s.1 s.2.1 s.2.2) (fun (s:(List Int)×Int×(List qf))=>y5o s.1 s.2.1 s.2.2) 0 ([[116,48],[116,49],[116,50]]) (s1.L,s1.at_,[]) else none
noncomputable def z6x (k7:Nat) (c4:(List Int)) (c5:Int) (l6:(List Bs)):Option (((List Int)×Int×(List Bs)) ⊕ ((List Bs)×zt)):=
 (ja (zt.mk c4 c5) ([[97],[97,58,42],[97,58,98],[97,58,98,58,42],[97,58,98,58,99],[98],[98,58,42],[98,58,99],[42]])).bind fun r11=>if l6.length+1≤1000000000 then (some (.inl (r11.2.L,r11.2.at_,(l6++[r11.1])))) else none
noncomputable def y1e (c4:(List Int)) (c5:Int) (l6:(List Bs)):Option ((List Bs)×zt):=
 some (l6,(zt.mk c4 c5))
noncomputable def Qh (s1:zt):Option ((List Bs)×zt):=
 (z0d s1 0 4).bind fun r2=>if r2.1≤1000000000 then rng (fun (k:Nat) (s:(List Int)×Int×(List Bs))=>z6x k s.1 s.2.1 s.2.2) (fun (s:(List Int)×Int×(List Bs))=>y1e s.1 s.2.1 s.2.2) r2.1.toNat 0 (r2.2.L,r2.2.at_,[]) else none
noncomputable def z98 (s1:zt):Option (Bs×zt):=
 (jx s1 25).bind fun r2=>if r2.1 then ((Zh [97,58] 10).bind fun r5=>if r5.length+[97].length≤1000000000 then ((ja r2.2 ([[],[97,58,42,58,98],[65],[97,58,58,98],[97,58],[42,42],[97,42],(r5++[97])])).bind fun r8=>some (r8.1,r8.2)) else none) else ((ja r2.2 ([[42],[97],[97,58,42],[97,58,98],[97,58,98,58,42],[97,58,98,58,99],[98],[98,58,42],[98,58,99],[99]])).bind fun r10=>some (r10.1,r10.2))
noncomputable def z6w (out17:(List Bs)) (c18:(List Int)) (c19:Int):Option ((List Bs)×zt):=
 some (out17,(zt.mk c18 c19))
noncomputable def z3e (out10:(List Bs)) (c11:(List Int)) (c12:Int):Option ((List Bs)×zt):=
 (jx (zt.mk c11 c12) 60).bind fun r13=>if r13.1 then (if 51≤1000000000 then (z6w (List.replicate 51 []) r13.2.L r13.2.at_) else none) else (z6w out10 r13.2.L r13.2.at_)
noncomputable def z97 (s1:zt):Option ((List Bs)×zt):=
 (Qh s1).bind fun r2=>(jx r2.2 6).bind fun r4=>if r4.1 then ((z98 r4.2).bind fun r7=>if r2.1.length+1≤1000000000 then (z3e (r2.1++[r7.1]) r7.2.L r7.2.at_) else none) else (z3e r2.1 r4.2.L r4.2.at_)
noncomputable def y48 (k5:Nat) (x8:UInt8) (h4:Int):Option (Int ⊕ (Int)):=
 some (.inl (IntKind.wrap .u64 ((xor_ .u64 h4 (IntKind.wrap .u64 (x8.toNat:Int))) * 1099511628211)))
noncomputable def y49 (h4:Int):Option (Int):=
 some h4
noncomputable def y4e (l1:(List Bs)):Option (Int):=
 (xb l1 [0]).bind fun r2=>if r2.length≤1000000000 then forL (fun (k:Nat) (x:UInt8) (s:Int)=>y48 k x s) (fun (s:Int)=>y49 s) 0 r2 14695981039346656037 else none
noncomputable def y4a (i1:Int):Option (Bs):=
 if decide (i1 < 10) then ((sub? [48,49,50,51,52,53,54,55,56,57,97,98,99,100,101,102,103,104,105,106,107,108,109,110,111,112,113,114,115,116,117,118,119,120,121,122] i1 (wr (i1+1))).bind fun (l3:Bs)=>some l3) else ((sub? [48,48,48,49,48,50,48,51,48,52,48,53,48,54,48,55,48,56,48,57,49,48,49,49,49,50,49,51,49,52,49,53,49,54,49,55,49,56,49,57,50,48,50,49,50,50,50,51,50,52,50,53,50,54,50,55,50,56,50,57,51,48,51,49,51,50,51,51,51,52,51,53,51,54,51,55,51,56,51,57,52,48,52,49,52,50,52,51,52,52,52,53,52,54,52,55,52,56,52,57,53,48,53,49,53,50,53,51,53,52,53,53,53,54,53,55,53,56,53,57,54,48,54,49,54,50,54,51,54,52,54,53,54,54,54,55,54,56,54,57,55,48,55,49,55,50,55,51,55,52,55,53,55,54,55,55,55,56,55,57,56,48,56,49,56,50,56,51,56,52,56,53,56,54,56,55,56,56,56,57,57,48,57,49,57,50,57,51,57,52,57,53,57,54,57,55,57,56,57,57] (wr (i1 * 2)) (wr ((wr (i1 * 2))+2))).bind fun (l5:Bs)=>some l5)
noncomputable def z9j (x1:Int):Option (Bool):=
 some (decide ((and_ .i64 x1 (wr (x1 - 1)))=0))
noncomputable def z57 (v5:Bool) (v52:Int) (l53:(List Int)):Option ((List Int)×Bs):=
 if v5 then none else (if l53.length=65 then (if (0:Int)≤v52∧v52≤(65:Int) then (some ([],(strN (l53.drop v52.toNat)))) else none) else none)
noncomputable def z6a (v4:Bool) (v5:Bool) (v47:Int) (l48:(List Int)):Option ((List Int)×Bs):=
 if v4 then (if (0:Int)≤(wr (v47 - 1))∧(wr (v47 - 1)) < (65:Int) then (if (wr (v47 - 1)).toNat < l48.length then (z57 v5 (wr (v47 - 1)) (l48.set (wr (v47 - 1)).toNat 45)) else none) else none) else (z57 v5 v47 l48)
noncomputable def z58 (v4:Bool) (v5:Bool) (v23:Int) (v24:Int) (l25:(List Int)):Option ((List Int)×Bs):=
 (at? [48,49,50,51,52,53,54,55,56,57,97,98,99,100,101,102,103,104,105,106,107,108,109,110,111,112,113,114,115,116,117,118,119,120,121,122] v23).bind fun (x26:UInt8)=>if (0:Int)≤(wr (v24 - 1))∧(wr (v24 - 1)) < (65:Int) then (if (wr (v24 - 1)).toNat < l25.length then (z6a v4 v5 (wr (v24 - 1)) (l25.set (wr (v24 - 1)).toNat (x26.toNat:Int))) else none) else none
noncomputable def z2g (v3:Int) (v4:Bool) (v5:Bool) (r11:(Int)) (v13:Int) (v14:Int) (l15:(List Int)):Option ((Int×Int×(List Int)) ⊕ ((List Int)×Bs)):=
 if decide ((IntKind.wrap .u64 v3)≤v13) then ((at? [48,49,50,51,52,53,54,55,56,57,97,98,99,100,101,102,103,104,105,106,107,108,109,110,111,112,113,114,115,116,117,118,119,120,121,122] (and_ .u64 v13 (IntKind.wrap .u64 ((IntKind.wrap .u64 v3) - 1)))).bind fun (x18:UInt8)=>if (0:Int)≤(wr (v14 - 1))∧(wr (v14 - 1)) < (65:Int) then (if (wr (v14 - 1)).toNat < l15.length then (if (0:Int)≤(IntKind.wrap .u64 r11) then (some (.inl ((shr_ .u64 v13 (IntKind.wrap .u64 r11)),wr (v14 - 1),(l15.set (wr (v14 - 1)).toNat (x18.toNat:Int))))) else none) else none) else none) else (Option.map .inr (z58 v4 v5 v13 v14 l15))
noncomputable def y40 (v4:Bool) (v5:Bool) (v40:Int) (v41:Int) (l42:(List Int)):Option ((List Int)×Bs):=
 (at? [48,49,50,51,52,53,54,55,56,57,97,98,99,100,101,102,103,104,105,106,107,108,109,110,111,112,113,114,115,116,117,118,119,120,121,122] v40).bind fun (x43:UInt8)=>if (0:Int)≤(wr (v41 - 1))∧(wr (v41 - 1)) < (65:Int) then (if (wr (v41 - 1)).toNat < l42.length then (z6a v4 v5 (wr (v41 - 1)) (l42.set (wr (v41 - 1)).toNat (x43.toNat:Int))) else none) else none
noncomputable def y8z (v3:Int) (v4:Bool) (v5:Bool) (v30:Int) (v31:Int) (l32:(List Int)):Option ((Int×Int×(List Int)) ⊕ ((List Int)×Bs)):=
 if decide ((IntKind.wrap .u64 v3)≤v30) then (if (IntKind.wrap .u64 v3)≠0 then ((at? [48,49,50,51,52,53,54,55,56,57,97,98,99,100,101,102,103,104,105,106,107,108,109,110,111,112,113,114,115,116,117,118,119,120,121,122] (IntKind.wrap .u64 (v30 - (IntKind.wrap .u64 ((IntKind.wrap .u64 (Int.tdiv v30 (IntKind.wrap .u64 v3))) * (IntKind.wrap .u64 v3)))))).bind fun (x36:UInt8)=>if (0:Int)≤(wr (v31 - 1))∧(wr (v31 - 1)) < (65:Int) then (if (wr (v31 - 1)).toNat < l32.length then (some (.inl ((IntKind.wrap .u64 (Int.tdiv v30 (IntKind.wrap .u64 v3))),wr (v31 - 1),(l32.set (wr (v31 - 1)).toNat (x36.toNat:Int))))) else none) else none) else none) else (Option.map .inr (y40 v4 v5 v30 v31 l32))
noncomputable def z6b (v2:Int) (v3:Int) (v4:Bool) (v5:Bool):Option ((List Int)×Bs):=
 (z9j v3).bind fun r8=>if r8 then ((z5s (IntKind.wrap .u64 v3)).bind fun r11=>iter (fun (s:Int×Int×(List Int))=>z2g v3 v4 v5 r11 s.1 s.2.1 s.2.2) (v2,65,(List.replicate 65 0))) else (iter (fun (s:Int×Int×(List Int))=>y8z v3 v4 v5 s.1 s.2.1 s.2.2) (v2,65,(List.replicate 65 0)))
noncomputable def z5d (v1:(List Int)) (v2:Int) (v3:Int) (v4:Bool) (v5:Bool):Option ((List Int)×Bs):=
 if (((decide (v3 < 2)) || (decide (v3=10))) || (decide (36 < v3))) then none else (if v4 then none else (z6b v2 v3 v4 v5))
noncomputable def y4c (i1:Int) (base2:Int):Option (Bs):=
 if decide (base2=10) then (if decide (i1 < 100) then ((y4a (IntKind.wrap .i64 i1)).bind fun r5=>some r5) else none) else ((z5d ([]:(List Int)) i1 base2 false false).bind fun r7=>some r7.2)
noncomputable def z43 (i1:Int) (base2:Int):Option (Bs):=
 (y4c i1 base2).bind fun r3=>some r3
noncomputable def z5e (h1:Int):Option (Bs):=
 (z43 h1 16).bind fun r2=>(Zh [48] (wr (16 - (r2.length:Int)))).bind fun r4=>if r4.length+r2.length≤1000000000 then (some (r4++r2)) else none
noncomputable def y5b (k6:Nat) (h5:Int):Option (Int ⊕ (Bs)):=
 some (.inl (IntKind.wrap .u64 ((xor_ .u64 h5 (shr_ .u64 h5 29)) * 13787848793156543929)))
noncomputable def z6l (h5:Int):Option (Bs):=
 (z5e h5).bind fun r9=>some r9
noncomputable def uo (secret1:Bs) (text2:Bs):Option (Bs):=
 (y4e [secret1,text2,secret1]).bind fun r3=>if 3≤1000000000 then rng (fun (k:Nat) (s:Int)=>y5b k s) (fun (s:Int)=>z6l s) 3 0 r3 else none
noncomputable def z63 (v21:(List yr)) (c22:(List Int)) (c23:Int):Option ((List yr)×zt):=
 some (v21,(zt.mk c22 c23))
noncomputable def y5p (x8:Bs) (r33:(List Bs)) (k38:Nat) (c35:(List Int)) (c36:Int) (l37:(List yr)):Option (((List Int)×Int×(List yr)) ⊕ (((List Int)×Int×(List yr)) ⊕ ((List yr)×zt))):=
 (r33[k38]?).bind fun (x42:Bs)=>(kh (zt.mk c35 c36) [0,0,50]).bind fun r44=>(Qh r44.2).bind fun r46=>(kh r46.2 [0,50,100,1000]).bind fun r48=>if l37.length+1≤1000000000 then (some (.inl (r48.2.L,r48.2.at_,(l37++[(yr.mk x8 x42 r46.1 r44.1 (wr (r44.1+r48.1)))])))) else none
noncomputable def y5s (c35:(List Int)) (c36:Int) (l37:(List yr)):Option (((List Int)×Int×(List yr)) ⊕ ((List yr)×zt)):=
 some (.inl (c35,c36,l37))
noncomputable def z62 (v59:(List Bs)) (c60:(List Int)) (c61:Int):Option (((List Int)×Int×(List Bs)) ⊕ (((List Int)×Int×(List yr)) ⊕ ((List yr)×zt))):=
 some (.inl (c60,c61,v59))
noncomputable def y5q (k29:Nat) (x32:Bs) (c26:(List Int)) (c27:Int) (l28:(List Bs)):Option (((List Int)×Int×(List Bs)) ⊕ (((List Int)×Int×(List yr)) ⊕ ((List yr)×zt))):=
 (jx (zt.mk c26 c27) 2).bind fun r53=>if r53.1 then ((uo [103,97,116,101] x32).bind fun r56=>if l28.length+1≤1000000000 then (z62 (l28++[r56]) r53.2.L r53.2.at_) else none) else (z62 l28 r53.2.L r53.2.at_)
noncomputable def y5t (l4:(List yr)) (x8:Bs) (c26:(List Int)) (c27:Int) (l28:(List Bs)):Option (((List Int)×Int×(List yr)) ⊕ ((List yr)×zt)):=
 (Zi l28).bind fun r33=>if r33.length≤1000000000 then rng (fun (k:Nat) (s:(List Int)×Int×(List yr))=>y5p x8 r33 k s.1 s.2.1 s.2.2) (fun (s:(List Int)×Int×(List yr))=>y5s s.1 s.2.1 s.2.2) r33.length 0 (c26,c27,l4) else none
noncomputable def y5r (k5:Nat) (x8:Bs) (c2:(List Int)) (c3:Int) (l4:(List yr)):Option (((List Int)×Int×(List yr)) ⊕ ((List yr)×zt)):=
 if ([[107,101,121,45,49],[107,101,121,45,50]]).length≤1000000000 then forL (fun (k:Nat) (x:Bs) (s:(List Int)×Int×(List Bs))=>y5q k x s.1 s.2.1 s.2.2) (fun (s:(List Int)×Int×(List Bs))=>y5t l4 x8 s.1 s.2.1 s.2.2) 0 ([[107,101,121,45,49],[107,101,121,45,50]]) (c2,c3,[]) else none
noncomputable def y5u (c2:(List Int)) (c3:Int) (l4:(List yr)):Option ((List yr)×zt):=
 (jx (zt.mk c2 c3) 15).bind fun r9=>if r9.1 then ((ja r9.2 ([[97,112,112,49],[],[122,122]])).bind fun r12=>(ja r12.2 ([[120],[48,49,50,51,52,53,54,55,56,57,97,98,99,100,101,102],[48,49,50,51,52,53,54,55,56,57,65,66,67,68,69,70]])).bind fun r14=>(z97 r14.2).bind fun r16=>(Yf r16.2 0 100).bind fun r18=>if l4.length+1≤1000000000 then (z63 (l4++[(yr.mk r12.1 r14.1 r16.1 0 r18.1)]) r18.2.L r18.2.at_) else none) else (z63 l4 r9.2.L r9.2.at_)
noncomputable def y0e (s1:zt):Option ((List yr)×zt):=
 if ([[97,112,112,49],[97,112,112,50]]).length≤1000000000 then forL (fun (k:Nat) (x:Bs) (s:(List Int)×Int×(List yr))=>y5r k x s.1 s.2.1 s.2.2) (fun (s:(List Int)×Int×(List yr))=>y5u s.1 s.2.1 s.2.2) 0 ([[97,112,112,49],[97,112,112,50]]) (s1.L,s1.at_,[]) else none
noncomputable def z61 (r2:((List ya)×zt)) (r4:((List qf)×zt)) (r6:((List yr)×zt)) (c19:(List Int)) (c20:Int) (c21:Bs) (c22:Bs) (c23:Int):Option (wo×zt):=
 some ((wo.mk c21 c22 r2.1 r4.1 r6.1 c23),(zt.mk c19 c20))
noncomputable def y0d (s1:zt):Option (wo×zt):=
 (z95 s1).bind fun r2=>(y0b r2.2).bind fun r4=>(y0e r4.2).bind fun r6=>(kh r6.2 [0,0,5,50]).bind fun r8=>(jx r8.2 20).bind fun r10=>if r10.1 then ((ja r10.2 ([[103,97,116,101],[]])).bind fun r13=>(ja r13.2 ([[115,104,111,112],[65]])).bind fun r15=>(Yf r15.2 0 600000).bind fun r17=>z61 r2 r4 r6 r17.2.L r17.2.at_ r13.1 r15.1 r17.1) else (z61 r2 r4 r6 r10.2.L r10.2.at_ [103,97,116,101] [115,104,111,112] r8.1)
noncomputable def kn (n1:Int) (low2:Int) (high3:Int):Option (Bool):=
 some ((decide (low2≤n1)) && (decide (n1≤high3)))
noncomputable def y47 (some2:Bs) (k3:Nat) (x6:UInt8):Option (Unit ⊕ (Bool)):=
 (Wu some2 (x6.toNat:Int)).bind fun r9=>if decide (r9 < 0) then (some (.inr false)) else (some (.inl ()))
noncomputable def y85:Option (Bool):=
 some true
noncomputable def xc (s1:Bs) (some2:Bs):Option (Bool):=
 if s1.length≤1000000000 then forL (fun (k:Nat) (x:UInt8) (s:Unit)=>y47 some2 k x) (fun (s:Unit)=>y85) 0 s1 () else none
noncomputable def z2t (v16:Bool):Option (Bool):=
 some v16
noncomputable def ko (s1:Bs):Option (Bool):=
 (kn (s1.length:Int) 1 40).bind fun r2=>if r2 then ((sub? s1 0 1).bind fun (l6:Bs)=>(xc l6 [97,98,99,100,101,102,103,104,105,106,107,108,109,110,111,112,113,114,115,116,117,118,119,120,121,122]).bind fun r8=>if r8 then ((xc s1 [97,98,99,100,101,102,103,104,105,106,107,108,109,110,111,112,113,114,115,116,117,118,119,120,121,122,48,49,50,51,52,53,54,55,56,57,45,95]).bind fun r12=>z2t r12) else (z2t false)) else (z2t false)
noncomputable def y7a (p1:ya→Option (Bool)) (k2:Nat) (x5:ya):Option (Unit ⊕ (Int)):=
 (p1 x5).bind fun r8=>if r8 then (some (.inr (k2:Int))) else (some (.inl ()))
noncomputable def y7b:Option (Int):=
 some (-1)
noncomputable def z12 (s1:(List ya)) (p1:ya→Option (Bool)):Option (Int):=
 if s1.length≤1000000000 then forL (fun (k:Nat) (x:ya) (s:Unit)=>y7a p1 k x) (fun (s:Unit)=>y7b) 0 s1 () else none
noncomputable def z88 (s1:(List ya)) (p1:ya→Option (Bool)):Option (Bool):=
 (z12 s1 p1).bind fun r2=>some (decide (0≤r2))
noncomputable def z9p (o1:ya) (c2:ya):Option (Bool):=
 some (decide (o1.Id=c2.Id))
noncomputable def z6i (v12:Bool):Option (Unit ⊕ (Bool)):=
 if v12 then (some (.inr false)) else (some (.inl ()))
noncomputable def y45 (low2:Int) (k3:Nat) (x6:UInt8):Option (Unit ⊕ (Bool)):=
 if decide ((x6.toNat:Int) < low2) then (z6i true) else (z6i (decide (126 < (x6.toNat:Int))))
noncomputable def y83:Option (Bool):=
 some true
noncomputable def Qf (s1:Bs) (low2:Int):Option (Bool):=
 if s1.length≤1000000000 then forL (fun (k:Nat) (x:UInt8) (s:Unit)=>y45 low2 k x) (fun (s:Unit)=>y83) 0 s1 () else none
noncomputable def z2p (s1:Bs) (v7:Bool):Option (Int):=
 if v7 then some 3 else (if decide (100 < (s1.length:Int)) then some 2 else some 0)
noncomputable def z9q (s1:Bs):Option (Int):=
 if decide (s1=[]) then (z2p s1 true) else ((Qf s1 33).bind fun r4=>z2p s1 (!r4))
noncomputable def z0k (v28:Bool):Option (Unit ⊕ (Int)):=
 if v28 then (some (.inr 7)) else (some (.inl ()))
noncomputable def y07 (v1:(List ya)) (k3:Nat) (x6:ya):Option (Unit ⊕ (Int)):=
 (ko x6.Id).bind fun r9=>if !r9 then (some (.inr 5)) else ((sub? v1 0 (k3:Int)).bind fun (l12:(List ya))=>(z88 l12 (fun (a0:ya)=>z9p a0 x6)).bind fun r14=>if r14 then (some (.inr 6)) else ((z9q x6.Secret).bind fun r17=>if decide (r17≠0) then (some (.inr r17)) else ((kn x6.From 0 x6.To).bind fun r20=>if (((!r20) || (decide (x6.Until < x6.To))) || (decide (345686400000 < x6.Until))) then (some (.inr 1)) else (if decide (0 < (k3:Int)) then ((at? v1 ((k3:Int) - 1)).bind fun (x25:ya)=>z0k (decide (x6.From < x25.From))) else (z0k false)))))
noncomputable def y86:Option (Int):=
 some 0
noncomputable def z5h (v1:(List ya)):Option (Int):=
 if decide (50 < (v1.length:Int)) then some 2 else (if v1.length≤1000000000 then forL (fun (k:Nat) (x:ya) (s:Unit)=>y07 v1 k x) (fun (s:Unit)=>y86) 0 v1 () else none)
noncomputable def y68 (p1:Bs→Option (Bool)) (k2:Nat) (x5:Bs):Option (Unit ⊕ (Int)):=
 (p1 x5).bind fun r8=>if r8 then (some (.inr (k2:Int))) else (some (.inl ()))
noncomputable def y69:Option (Int):=
 some (-1)
noncomputable def y34 (s1:(List Bs)) (p1:Bs→Option (Bool)):Option (Int):=
 if s1.length≤1000000000 then forL (fun (k:Nat) (x:Bs) (s:Unit)=>y68 p1 k x) (fun (s:Unit)=>y69) 0 s1 () else none
noncomputable def z13 (s1:(List Bs)) (p1:Bs→Option (Bool)):Option (Bool):=
 (y34 s1 p1).bind fun r2=>some (decide (0≤r2))
noncomputable def z9n (a1:Bs) (b2:Bs):Option (Bool):=
 (z10 a1 [42]).bind fun r3=>if r3.2 then ((z1z b2 r3.1).bind fun r6=>some r6) else (some (decide (a1=b2)))
noncomputable def z6p (v8:Bool):Option (Bool):=
 some v8
noncomputable def z9u (o1:Bs) (c2:Bs):Option (Bool):=
 if decide (o1≠c2) then ((z9n o1 c2).bind fun r5=>z6p r5) else (z6p false)
noncomputable def z6o (out17:(List Bs)):Option ((List Bs) ⊕ ((List Bs))):=
 some (.inl out17)
noncomputable def y5e (l1:(List Bs)) (k3:Nat) (x6:Bs) (l2:(List Bs)):Option ((List Bs) ⊕ ((List Bs))):=
 (z13 l1 (fun (a0:Bs)=>z9u a0 x6)).bind fun r13=>if !r13 then (if l2.length+1≤1000000000 then (z6o (l2++[x6])) else none) else (z6o l2)
noncomputable def y5f (l2:(List Bs)):Option ((List Bs)):=
 (Zi l2).bind fun r7=>(z14 r7).bind fun r9=>some r9
noncomputable def z19 (l1:(List Bs)):Option ((List Bs)):=
 if l1.length≤1000000000 then forL (fun (k:Nat) (x:Bs) (s:(List Bs))=>y5e l1 k x s) (fun (s:(List Bs))=>y5f s) 0 l1 [] else none
noncomputable def z5q (s1:zt):Option (zm×zt):=
 (ja s1 ([[116,49],[116,49],[116,50],[116,51]])).bind fun r2=>(ja r2.2 ([[97,110,110],[98,111,98]])).bind fun r4=>(ja r4.2 ([[103,97,116,101],[103,97,116,101],[103,97,116,101],[111,116,104,101,114]])).bind fun r6=>(ja r6.2 ([[],[],[],[116,48],[116,50]])).bind fun r8=>(uf r8.2 5).bind fun r10=>(at? ([[],[],[[115,104,111,112]],[[109,97,112,115],[115,104,111,112]],[[109,97,112,115]]]) r10.1).bind fun (x12:(List Bs))=>(Qh r10.2).bind fun r14=>(z19 r14.1).bind fun r16=>(kh r14.2 [0,50,100]).bind fun r18=>(kh r18.2 [1,50,100,200]).bind fun r20=>some ((zm.mk r2.1 r4.1 r6.1 r8.1 x12 r16 r18.1 (wr (r18.1+r20.1))),r20.2)
noncomputable def y46 (r2:((List Bs))) (k4:Nat) (x7:Bs):Option (Unit ⊕ (Bool)):=
 (ko x7).bind fun r10=>if ((!r10) && ((decide (x7≠[42])) || (decide ((k4:Int) < (wr ((r2.length:Int) - 1)))))) then (some (.inr false)) else (some (.inl ()))
noncomputable def y84 (r2:((List Bs))):Option (Bool):=
 some (decide ((r2.length:Int)≤10))
noncomputable def z9k (s1:Bs):Option (Bool):=
 (ka s1 [58]).bind fun r2=>if r2.length≤1000000000 then forL (fun (k:Nat) (x:Bs) (s:Unit)=>y46 r2 k x) (fun (s:Unit)=>y84 r2) 0 r2 () else none
noncomputable def y5c (k3:Nat) (x6:Bs):Option (Unit ⊕ (Int)):=
 (z9k x6).bind fun r9=>if !r9 then (some (.inr 3)) else (some (.inl ()))
noncomputable def y87:Option (Int):=
 some 0
noncomputable def z5i (l1:(List Bs)):Option (Int):=
 if decide (50 < (l1.length:Int)) then some 2 else (if l1.length≤1000000000 then forL (fun (k:Nat) (x:Bs) (s:Unit)=>y5c k x) (fun (s:Unit)=>y87) 0 l1 () else none)
noncomputable def y24 (s2:(List Bs)) (k4:Nat) (x7:Bs):Option (Unit ⊕ (Bool)):=
 (s2[k4]?).bind fun (x10:Bs)=>if decide (x7≠x10) then (some (.inr false)) else (some (.inl ()))
noncomputable def y7e:Option (Bool):=
 some true
noncomputable def Wy (s1:(List Bs)) (s2:(List Bs)):Option (Bool):=
 if decide ((s1.length:Int)≠(s2.length:Int)) then some false else (if s1.length≤1000000000 then forL (fun (k:Nat) (x:Bs) (s:Unit)=>y24 s2 k x) (fun (s:Unit)=>y7e) 0 s1 () else none)
noncomputable def z29 (v48:Bool):Option (Unit ⊕ (Int)):=
 if v48 then (some (.inr 7)) else (some (.inl ()))
noncomputable def y5j (v1:zm) (k25:Nat) (x28:Bs):Option (Unit ⊕ (Int)):=
 (ko x28).bind fun r40=>if !r40 then (some (.inr 5)) else (if decide (0 < (k25:Int)) then ((at? v1.Audience ((k25:Int) - 1)).bind fun (x45:Bs)=>z29 (Op.bytesLess x28 x45 || x28 == x45)) else (z29 false))
noncomputable def y1d (v1:zm):Option (Int):=
 (z5i v1.Scopes).bind fun r29=>if decide (r29≠0) then some r29 else ((z19 v1.Scopes).bind fun r32=>(Wy r32 v1.Scopes).bind fun r34=>if !r34 then some 7 else (if (((decide (v1.From < 0)) || (decide (v1.To≤v1.From))) || (decide (345686400000 < v1.To))) then some 1 else some 0))
noncomputable def Yl (v1:zm) (v22:Bool):Option (Int):=
 if v22 then some 5 else (if decide (50 < (v1.Audience.length:Int)) then some 2 else (if v1.Audience.length≤1000000000 then forL (fun (k:Nat) (x:Bs) (s:Unit)=>y5j v1 k x) (fun (s:Unit)=>y1d v1) 0 v1.Audience () else none))
noncomputable def z2b (v1:zm):Option (Int):=
 (ko v1.Id).bind fun r2=>if !r2 then (Yl v1 true) else ((ko v1.Subject).bind fun r6=>if !r6 then (Yl v1 true) else ((ko v1.Issuer).bind fun r10=>if !r10 then (Yl v1 true) else (if decide (v1.Parent≠[]) then ((ko v1.Parent).bind fun r16=>Yl v1 (!r16)) else (Yl v1 false))))
noncomputable def z23 (c1:zm) (l20:(List Bs)):Option (Bs):=
 (Ww c1.From).bind fun r21=>if [116,105,109,101,32].length+r21.length≤1000000000 then (if ([116,105,109,101,32]++r21).length+[32].length≤1000000000 then ((Ww c1.To).bind fun r25=>if (([116,105,109,101,32]++r21)++[32]).length+r25.length≤1000000000 then (if l20.length+1≤1000000000 then ((xb (l20++([((([116,105,109,101,32]++r21)++[32])++r25)])) [10]).bind fun r29=>if r29.length+[10].length≤1000000000 then (some (r29++[10])) else none) else none) else none) else none) else none
noncomputable def z26 (c1:zm) (l14:(List Bs)):Option (Bs):=
 if decide (0 < (c1.Scopes.length:Int)) then ((xb c1.Scopes [32]).bind fun r16=>if [109,97,121,32].length+r16.length≤1000000000 then (if l14.length+1≤1000000000 then (z23 c1 (l14++([([109,97,121,32]++r16)]))) else none) else none) else (z23 c1 l14)
noncomputable def z28 (c1:zm) (l8:(List Bs)):Option (Bs):=
 if decide (0 < (c1.Audience.length:Int)) then ((xb c1.Audience [32]).bind fun r10=>if [102,111,114,32].length+r10.length≤1000000000 then (if l8.length+1≤1000000000 then (z26 c1 (l8++([([102,111,114,32]++r10)]))) else none) else none) else (z26 c1 l8)
noncomputable def z2a (c1:zm):Option (Bs):=
 if [105,100,32].length+c1.Id.length≤1000000000 then (if [115,117,98,106,101,99,116,32].length+c1.Subject.length≤1000000000 then (if [105,115,115,117,101,114,32].length+c1.Issuer.length≤1000000000 then (if decide (c1.Parent≠[]) then (if [112,97,114,101,110,116,32].length+c1.Parent.length≤1000000000 then (if ([([105,100,32]++c1.Id),([115,117,98,106,101,99,116,32]++c1.Subject),([105,115,115,117,101,114,32]++c1.Issuer)]:(List Bs)).length+1≤1000000000 then (z28 c1 (([([105,100,32]++c1.Id),([115,117,98,106,101,99,116,32]++c1.Subject),([105,115,115,117,101,114,32]++c1.Issuer)]:(List Bs))++([([112,97,114,101,110,116,32]++c1.Parent)]))) else none) else none) else (z28 c1 ([([105,100,32]++c1.Id),([115,117,98,106,101,99,116,32]++c1.Subject),([105,115,115,117,101,114,32]++c1.Issuer)]:(List Bs)))) else none) else none) else none
noncomputable def z5n (c1:zm):Option (Bs×Int):=
 (z2b c1).bind fun r2=>if decide (r2≠0) then (some ([],r2)) else ((z2a c1).bind fun r5=>if decide (4000 < (r5.length:Int)) then (some ([],2)) else (some (r5,0)))
noncomputable def z5l (v1:Int):Option (Bool):=
 (kn v1 0 345686399999).bind fun r2=>some r2
noncomputable def Ql (v2:Int) (k5:Nat) (x6:ya):Option (Unit ⊕ (ya×Bool)):=
 if ((decide (x6.From≤v2)) && (decide (v2 < x6.To))) then (some (.inr (x6,true))) else (some (.inl ()))
noncomputable def y08:Option (ya×Bool):=
 some ((ya.mk [] [] 0 0 0),false)
noncomputable def Qg (l1:(List ya)) (v2:Int):Option (ya×Bool):=
 if l1.length≤1000000000 then back (fun (k:Nat) (x:ya) (s:Unit)=>Ql v2 k x) (fun (s:Unit)=>y08) l1 l1.length () else none
noncomputable def ky (c1:Int):Option (Int):=
 some (or_ .u8 c1 32)
noncomputable def z55 (v47:Int) (v85:Int):Option ((Int×Int) ⊕ (Bool)):=
 some (.inl (v85,wr (v47+1)))
noncomputable def Yh (v14:Bs) (v46:Int) (v47:Int) (v78:Bool):Option ((Int×Int) ⊕ (Bool)):=
 if v78 then (z55 v47 48) else ((at? v14 v47).bind fun (x80:UInt8)=>if decide ((x80.toNat:Int)=95) then (if decide (v46≠48) then (some (.inr false)) else (z55 v47 95)) else (if decide (v46=95) then (some (.inr false)) else (z55 v47 33)))
noncomputable def y4z (v86:Int):Option (Bool):=
 some (decide (v86≠95))
noncomputable def y8y (v14:Bs) (v45:Bool) (v46:Int) (v47:Int):Option ((Int×Int) ⊕ (Bool)):=
 if decide (v47 < (v14.length:Int)) then ((at? v14 v47).bind fun (x50:UInt8)=>if decide (48≤(x50.toNat:Int)) then (if decide ((x50.toNat:Int)≤57) then (Yh v14 v46 v47 true) else (if v45 then ((ky (x50.toNat:Int)).bind fun r58=>if decide (97≤r58) then ((ky (x50.toNat:Int)).bind fun r62=>Yh v14 v46 v47 (decide (r62≤102))) else (Yh v14 v46 v47 false)) else (Yh v14 v46 v47 false))) else (if v45 then ((ky (x50.toNat:Int)).bind fun r70=>if decide (97≤r70) then ((ky (x50.toNat:Int)).bind fun r74=>Yh v14 v46 v47 (decide (r74≤102))) else (Yh v14 v46 v47 false)) else (Yh v14 v46 v47 false))) else (Option.map .inr (y4z v46))
noncomputable def y0u (v14:Bs) (v43:Int) (v44:Int) (v45:Bool):Option (Bool):=
 iter (fun (s:Int×Int)=>y8y v14 v45 s.1 s.2) (v43,v44)
noncomputable def z0g (v14:Bs) (v37:Bool):Option (Bool):=
 if v37 then ((v14[1]?).bind fun (x39:UInt8)=>(ky (x39.toNat:Int)).bind fun r41=>y0u v14 48 2 (decide (r41=120))) else (y0u v14 94 0 false)
noncomputable def y0v (v14:Bs):Option (Bool):=
 if decide (2≤(v14.length:Int)) then ((v14[0]?).bind fun (x17:UInt8)=>if decide ((x17.toNat:Int)=48) then ((v14[1]?).bind fun (x21:UInt8)=>(ky (x21.toNat:Int)).bind fun r23=>if decide (r23=98) then (z0g v14 true) else ((ky (x21.toNat:Int)).bind fun r27=>if decide (r27=111) then (z0g v14 true) else ((ky (x21.toNat:Int)).bind fun r31=>z0g v14 (decide (r31=120))))) else (z0g v14 false)) else (z0g v14 false)
noncomputable def z56 (v1:Bs) (v10:Bool):Option (Bool):=
 if v10 then ((sub? v1 1 (v1.length:Int)).bind fun (l12:Bs)=>y0v l12) else (y0v v1)
noncomputable def y74 (v1:Bs):Option (Bool):=
 if decide (1≤(v1.length:Int)) then ((v1[0]?).bind fun (x4:UInt8)=>if decide ((x4.toNat:Int)=45) then (z56 v1 true) else (z56 v1 (decide ((x4.toNat:Int)=43)))) else (z56 v1 false)
noncomputable def y0w (v87:Bool) (v88:Int):Option ((Bool×Int) ⊕ (Int×Int)):=
 some (.inl (v87,v88))
noncomputable def y03 (v46:Int) (v49:Int) (v53:Int) (v55:Bool) (v56:Int) (v83:Int):Option ((Bool×Int) ⊕ (Int×Int)):=
 if decide ((IntKind.wrap .u8 v46)≤v83) then (some (.inr (0,2))) else (if decide (v53≤v56) then (some (.inr (IntKind.wrap .u64 ((shl_ .u64 1 (IntKind.wrap .u64 v49)) - 1),1))) else (if ((decide ((IntKind.wrap .u64 ((IntKind.wrap .u64 (v56 * (IntKind.wrap .u64 v46)))+(IntKind.wrap .u64 v83))) < (IntKind.wrap .u64 (v56 * (IntKind.wrap .u64 v46))))) || (decide ((IntKind.wrap .u64 ((shl_ .u64 1 (IntKind.wrap .u64 v49)) - 1)) < (IntKind.wrap .u64 ((IntKind.wrap .u64 (v56 * (IntKind.wrap .u64 v46)))+(IntKind.wrap .u64 v83)))))) then (some (.inr (IntKind.wrap .u64 ((shl_ .u64 1 (IntKind.wrap .u64 v49)) - 1),1))) else (y0w v55 (IntKind.wrap .u64 ((IntKind.wrap .u64 (v56 * (IntKind.wrap .u64 v46)))+(IntKind.wrap .u64 v83))))))
noncomputable def y02 (v46:Int) (v49:Int) (v53:Int) (v55:Bool) (v56:Int) (x60:Int) (v79:Bool):Option ((Bool×Int) ⊕ (Int×Int)):=
 if v79 then ((ky x60).bind fun r81=>y03 v46 v49 v53 v55 v56 (IntKind.wrap .u8 ((IntKind.wrap .u8 (r81 - 97))+10))) else (some (.inr (0,2)))
noncomputable def y80 (v2:Int) (v46:Int) (v49:Int) (v53:Int) (k57:Nat) (x60:Int) (v55:Bool) (v56:Int):Option ((Bool×Int) ⊕ (Int×Int)):=
 if ((decide (x60=95)) && (decide (v2=0))) then (y0w true v56) else (if ((decide (48≤x60)) && (decide (x60≤57))) then (y03 v46 v49 v53 v55 v56 (IntKind.wrap .u8 (x60 - 48))) else ((ky x60).bind fun r72=>if decide (97≤r72) then ((ky x60).bind fun r76=>y02 v46 v49 v53 v55 v56 x60 (decide (r76≤122))) else (y02 v46 v49 v53 v55 v56 x60 false)))
noncomputable def y0x (v56:Int) (v66:Bool):Option (Int×Int):=
 if v66 then (some (0,2)) else (some (v56,0))
noncomputable def y81 (v1:Bs) (v55:Bool) (v56:Int):Option (Int×Int):=
 if v55 then ((y74 v1).bind fun r63=>y0x v56 (!r63)) else (y0x v56 false)
noncomputable def z6c (v1:Bs) (v2:Int) (v45:Bs) (v46:Int) (v49:Int) (v53:Int):Option (Int×Int):=
 if (0:Int)≤(IntKind.wrap .u64 v49) then (if (vd v45).length≤1000000000 then forL (fun (k:Nat) (x:Int) (s:Bool×Int)=>y80 v2 v46 v49 v53 k x s.1 s.2) (fun (s:Bool×Int)=>y81 v1 s.1 s.2) 0 (vd v45) (false,0) else none) else none
noncomputable def y0y (v1:Bs) (v2:Int) (v45:Bs) (v46:Int) (v49:Int):Option (Int×Int):=
 if decide (v46=10) then (z6c v1 v2 v45 v46 v49 1844674407370955162) else (if decide (v46=16) then (z6c v1 v2 v45 v46 v49 1152921504606846976) else (if (IntKind.wrap .u64 v46)≠0 then (z6c v1 v2 v45 v46 v49 (IntKind.wrap .u64 ((IntKind.wrap .u64 (Int.tdiv 18446744073709551615 (IntKind.wrap .u64 v46)))+1))) else none))
noncomputable def Qj (v1:Bs) (v2:Int) (v3:Int) (v45:Bs) (v46:Int):Option (Int×Int):=
 if decide (v3=0) then (y0y v1 v2 v45 v46 64) else (if ((decide (v3 < 0)) || (decide (64 < v3))) then (some (0,4)) else (y0y v1 v2 v45 v46 v3))
noncomputable def y0z (v1:Bs) (v2:Int) (v3:Int) (v39:Bool):Option (Int×Int):=
 if v39 then ((sub? v1 2 (v1.length:Int)).bind fun (l41:Bs)=>Qj v1 v2 v3 l41 16) else ((sub? v1 1 (v1.length:Int)).bind fun (l43:Bs)=>Qj v1 v2 v3 l43 8)
noncomputable def y00 (v1:Bs) (v2:Int) (v3:Int) (v28:Bool):Option (Int×Int):=
 if v28 then ((sub? v1 2 (v1.length:Int)).bind fun (l30:Bs)=>Qj v1 v2 v3 l30 8) else (if decide (3≤(v1.length:Int)) then ((v1[1]?).bind fun (x34:UInt8)=>(ky (x34.toNat:Int)).bind fun r36=>y0z v1 v2 v3 (decide (r36=120))) else (y0z v1 v2 v3 false))
noncomputable def y01 (v1:Bs) (v2:Int) (v3:Int) (v17:Bool):Option (Int×Int):=
 if v17 then ((sub? v1 2 (v1.length:Int)).bind fun (l19:Bs)=>Qj v1 v2 v3 l19 2) else (if decide (3≤(v1.length:Int)) then ((v1[1]?).bind fun (x23:UInt8)=>(ky (x23.toNat:Int)).bind fun r25=>y00 v1 v2 v3 (decide (r25=111))) else (y00 v1 v2 v3 false))
noncomputable def y75 (v1:Bs) (v2:Int) (v3:Int):Option (Int×Int):=
 if decide (v1=[]) then (some (0,2)) else (if ((decide (2≤v2)) && (decide (v2≤36))) then (Qj v1 v2 v3 v1 v2) else (if decide (v2=0) then ((v1[0]?).bind fun (x7:UInt8)=>if decide ((x7.toNat:Int)=48) then (if decide (3≤(v1.length:Int)) then ((v1[1]?).bind fun (x12:UInt8)=>(ky (x12.toNat:Int)).bind fun r14=>y01 v1 v2 v3 (decide (r14=98))) else (y01 v1 v2 v3 false)) else (Qj v1 v2 v3 v1 10)) else (some (0,3))))
noncomputable def y04 (v31:Int):Option (Int×Int):=
 some (v31,0)
noncomputable def y05 (v14:Bool) (r15:(Int×Int)) (v24:Int):Option (Int×Int):=
 if (0:Int)≤(IntKind.wrap .u64 (wr (v24 - 1))) then (if ((!v14) && (decide ((shl_ .u64 1 (IntKind.wrap .u64 (wr (v24 - 1))))≤r15.1))) then (some (IntKind.wrap .i64 (IntKind.wrap .u64 ((shl_ .u64 1 (IntKind.wrap .u64 (wr (v24 - 1)))) - 1)),1)) else (if (v14 && (decide ((shl_ .u64 1 (IntKind.wrap .u64 (wr (v24 - 1)))) < r15.1))) then (if -9223372036854775807≤IntKind.wrap .i64 (shl_ .u64 1 (IntKind.wrap .u64 (wr (v24 - 1))))∧IntKind.wrap .i64 (shl_ .u64 1 (IntKind.wrap .u64 (wr (v24 - 1))))≤9223372036854775807 then (some ((-(IntKind.wrap .i64 (shl_ .u64 1 (IntKind.wrap .u64 (wr (v24 - 1)))))),1)) else none) else (if v14 then (if -9223372036854775807≤IntKind.wrap .i64 r15.1∧IntKind.wrap .i64 r15.1≤9223372036854775807 then (y04 (-(IntKind.wrap .i64 r15.1))) else none) else (y04 (IntKind.wrap .i64 r15.1))))) else none
noncomputable def y06 (v3:Int) (v14:Bool) (r15:(Int×Int)) (v21:Bool):Option (Int×Int):=
 if v21 then (some (0,r15.2)) else (if decide (v3=0) then (y05 v14 r15 64) else (y05 v14 r15 v3))
noncomputable def z6d (v2:Int) (v3:Int) (v13:Bs) (v14:Bool):Option (Int×Int):=
 (y75 v13 v2 v3).bind fun r15=>if decide (r15.2≠0) then (if (0:Int)≤r15.2∧r15.2≤(4:Int) then (y06 v3 v14 r15 (decide (r15.2≠1))) else none) else (y06 v3 v14 r15 false)
noncomputable def y4b (v1:Bs) (v2:Int) (v3:Int):Option (Int×Int):=
 if decide (v1=[]) then (some (0,2)) else ((v1[0]?).bind fun (x5:UInt8)=>if decide ((x5.toNat:Int)=43) then ((sub? v1 1 (v1.length:Int)).bind fun (l8:Bs)=>z6d v2 v3 l8 false) else (if decide ((x5.toNat:Int)=45) then ((sub? v1 1 (v1.length:Int)).bind fun (l11:Bs)=>z6d v2 v3 l11 true) else (z6d v2 v3 v1 false)))
noncomputable def Wv (s1:Bs) (base2:Int) (bitSize3:Int):Option (Int×Int):=
 (y4b s1 base2 bitSize3).bind fun r4=>if decide (r4.2≠0) then ((y70 [80,97,114,115,101,73,110,116] s1 base2 bitSize3 r4.2).bind fun r7=>some (r4.1,r7)) else (some (r4.1,0))
noncomputable def y4d (i1:Int) (base2:Int):Option (Bs):=
 if decide (base2=10) then (if ((decide (0≤i1)) && (decide (i1 < 100))) then ((y4a i1).bind fun r5=>some r5) else none) else ((z5d ([]:(List Int)) (IntKind.wrap .u64 i1) base2 (decide (i1 < 0)) false).bind fun r7=>some r7.2)
noncomputable def Wx (i1:Int) (base2:Int):Option (Bs):=
 (y4d i1 base2).bind fun r3=>some r3
noncomputable def z2w (out23:Bs):Option (Bs):=
 some out23
noncomputable def xf (bits7:Bs) (out8:Bs):Option ((Bs×Bs) ⊕ (Bs)):=
 if decide (bits7≠[]) then ((sub? bits7 0 (min 6 (bits7.length:Int))).bind fun (l11:Bs)=>(sub? [48,48,48,48,48,48] (min 6 (bits7.length:Int)) ([48,48,48,48,48,48].length:Int)).bind fun (l13:Bs)=>if l11.length+l13.length≤1000000000 then ((Wv (l11++l13) 2 64).bind fun r16=>(sub? [65,66,67,68,69,70,71,72,73,74,75,76,77,78,79,80,81,82,83,84,85,86,87,88,89,90,97,98,99,100,101,102,103,104,105,106,107,108,109,110,111,112,113,114,115,116,117,118,119,120,121,122,48,49,50,51,52,53,54,55,56,57,45,95] r16.1 (wr (r16.1+1))).bind fun (l18:Bs)=>if out8.length+l18.length≤1000000000 then ((sub? bits7 (min 6 (bits7.length:Int)) (bits7.length:Int)).bind fun (l21:Bs)=>some (.inl (l21,(out8++l18)))) else none) else none) else (Option.map .inr (z2w out8))
noncomputable def z2v (k3:Nat) (x6:UInt8) (bits2:Bs):Option (Bs ⊕ (Bs)):=
 (Wx (wr (256+(IntKind.wrap .i64 (x6.toNat:Int)))) 2).bind fun r26=>(sub? r26 1 (r26.length:Int)).bind fun (l28:Bs)=>if bits2.length+l28.length≤1000000000 then (some (.inl (bits2++l28))) else none
noncomputable def z2x (bits2:Bs):Option (Bs):=
 iter (fun (s:Bs×Bs)=>xf s.1 s.2) (bits2,[])
noncomputable def z0c (s1:Bs):Option (Bs):=
 if s1.length≤1000000000 then forL (fun (k:Nat) (x:UInt8) (s:Bs)=>z2v k x s) (fun (s:Bs)=>z2x s) 0 s1 [] else none
noncomputable def z9w (l1:(List ya)) (c2:zm) (v3:Int):Option (Bs×Int):=
 (z5n c2).bind fun r4=>if decide (r4.2≠0) then (some ([],r4.2)) else ((z5l v3).bind fun r7=>if !r7 then (some ([],1)) else ((Qg l1 v3).bind fun r10=>if !r10.2 then (some ([],8)) else (if decide (r10.1.Until < c2.To) then (some ([],1)) else (if r10.1.Id.length+[46].length≤1000000000 then ((z0c r4.1).bind fun r15=>if (r10.1.Id++[46]).length+r15.length≤1000000000 then (if ((r10.1.Id++[46])++r15).length+[46].length≤1000000000 then ((uo r10.1.Secret ((r10.1.Id++[46])++r15)).bind fun r19=>if (((r10.1.Id++[46])++r15)++[46]).length+r19.length≤1000000000 then (some (((((r10.1.Id++[46])++r15)++[46])++r19),0)) else none) else none) else none) else none))))
noncomputable def z5r (s1:zt) (t2:Bs) (v3:Bs):Option (Bs×zt):=
 if ((decide (t2=[])) || (decide (v3=[]))) then (some (v3,s1)) else ((uf s1 (t2.length:Int)).bind fun r5=>(uf r5.2 (v3.length:Int)).bind fun r7=>(at? v3 r7.1).bind fun (x9:UInt8)=>(uf r7.2 3).bind fun r11=>if decide (r11.1=0) then ((sub? t2 0 r5.1).bind fun (l14:Bs)=>if l14.length+(encL (IntKind.wrap .i32 (x9.toNat:Int))).length≤1000000000 then ((sub? t2 (wr (r5.1+1)) (t2.length:Int)).bind fun (l17:Bs)=>if (l14++(encL (IntKind.wrap .i32 (x9.toNat:Int)))).length+l17.length≤1000000000 then (some (((l14++(encL (IntKind.wrap .i32 (x9.toNat:Int))))++l17),r11.2)) else none) else none) else (if decide (r11.1=1) then ((sub? t2 0 r5.1).bind fun (l21:Bs)=>if l21.length+(encL (IntKind.wrap .i32 (x9.toNat:Int))).length≤1000000000 then ((sub? t2 r5.1 (t2.length:Int)).bind fun (l24:Bs)=>if (l21++(encL (IntKind.wrap .i32 (x9.toNat:Int)))).length+l24.length≤1000000000 then (some (((l21++(encL (IntKind.wrap .i32 (x9.toNat:Int))))++l24),r11.2)) else none) else none) else ((sub? t2 0 r5.1).bind fun (l27:Bs)=>(sub? t2 (wr (r5.1+1)) (t2.length:Int)).bind fun (l29:Bs)=>if l27.length+l29.length≤1000000000 then (some ((l27++l29),r11.2)) else none)))
noncomputable def z64 (t23:Bs) (c24:(List Int)) (c25:Int):Option (Bs×zt):=
 some (t23,(zt.mk c24 c25))
noncomputable def y5v (k11:Nat) (t8:Bs) (c9:(List Int)) (c10:Int):Option ((Bs×(List Int)×Int) ⊕ (Bs×zt)):=
 (z5r (zt.mk c9 c10) t8 [32,10,105,116,48,115,58]).bind fun r27=>some (.inl (r27.1,r27.2.L,r27.2.at_))
noncomputable def y5w (t8:Bs) (c9:(List Int)) (c10:Int):Option (Bs×zt):=
 (jx (zt.mk c9 c10) 10).bind fun r14=>if r14.1 then ((ja r14.2 ([[105,100,32,116,49,10],[116,105,109,101],[10,105,115,115,117,101,114],[115,117,98,106,101,99,116],[109,97,121]])).bind fun r17=>(ja r17.2 ([[],[102,111,114],[10,105,100],[109,97,121],[10]])).bind fun r19=>(y32 t8 r17.1 r19.1 1).bind fun r21=>z64 r21 r19.2.L r19.2.at_) else (z64 t8 r14.2.L r14.2.at_)
noncomputable def y0f (s1:zt):Option (Bs×zt):=
 (z5q s1).bind fun r2=>(z2a r2.1).bind fun r4=>(kh r2.2 [0,0,1,2]).bind fun r6=>if r6.1≤1000000000 then rng (fun (k:Nat) (s:Bs×(List Int)×Int)=>y5v k s.1 s.2.1 s.2.2) (fun (s:Bs×(List Int)×Int)=>y5w s.1 s.2.1 s.2.2) r6.1.toNat 0 (r4,r6.2.L,r6.2.at_) else none
noncomputable def z6v (v56:Bs) (c57:(List Int)) (c58:Int):Option (Bs×zt):=
 some (v56,(zt.mk c57 c58))
noncomputable def z3a (v43:Bs) (c44:(List Int)) (c45:Int):Option (Bs×zt):=
 (jx (zt.mk c44 c45) 25).bind fun r46=>if r46.1 then ((ja r46.2 ([[65],[89,82],[42],[]])).bind fun r49=>if [115,49,46].length+r49.1.length≤1000000000 then (if ([115,49,46]++r49.1).length+[46].length≤1000000000 then ((uo [111,110,101] ([115,49,46]++r49.1)).bind fun r53=>if (([115,49,46]++r49.1)++[46]).length+r53.length≤1000000000 then (z6v ((([115,49,46]++r49.1)++[46])++r53) r49.2.L r49.2.at_) else none) else none) else none) else (z6v v43 r46.2.L r46.2.at_)
noncomputable def z3b (v35:Bs) (c36:(List Int)) (c37:Int):Option (Bs×zt):=
 (jx (zt.mk c36 c37) 8).bind fun r38=>if r38.1 then ((z5r r38.2 v35 [65,46,98,95,48]).bind fun r41=>z3a r41.1 r41.2.L r41.2.at_) else (z3a v35 r38.2.L r38.2.at_)
noncomputable def z3c (s1:zt) (v17:Bs):Option (Bs×zt):=
 (jx s1 8).bind fun r18=>if r18.1 then ((ja r18.2 ([[115,49],[115,50],[115,57]])).bind fun r21=>if r21.1.length+[46].length≤1000000000 then ((y0f r21.2).bind fun r24=>(z0c r24.1).bind fun r26=>if (r21.1++[46]).length+r26.length≤1000000000 then (if ((r21.1++[46])++r26).length+[46].length≤1000000000 then ((ja r24.2 ([[111,110,101],[116,119,111]])).bind fun r30=>(uo r30.1 ((r21.1++[46])++r26)).bind fun r32=>if (((r21.1++[46])++r26)++[46]).length+r32.length≤1000000000 then (z3b ((((r21.1++[46])++r26)++[46])++r32) r30.2.L r30.2.at_) else none) else none) else none) else none) else (z3b v17 r18.2.L r18.2.at_)
noncomputable def z94 (s1:zt) (v2:(List ya)) (v3:zm) (v4:Int):Option (Bs×zt):=
 (z9w v2 v3 v4).bind fun r5=>if decide (r5.2≠0) then ((z2a v3).bind fun r8=>(z0c r8).bind fun r10=>if [115,49,46].length+r10.length≤1000000000 then (if ([115,49,46]++r10).length+[46].length≤1000000000 then ((uo [111,110,101] ([115,49,46]++r10)).bind fun r14=>if (([115,49,46]++r10)++[46]).length+r14.length≤1000000000 then (z3c s1 ((([115,49,46]++r10)++[46])++r14)) else none) else none) else none) else (z3c s1 r5.1)
noncomputable def y5l (k8:Nat) (c5:(List Int)) (c6:Int) (l7:(List qo)):Option (((List Int)×Int×(List qo)) ⊕ ((List qo)×zt)):=
 (ja (zt.mk c5 c6) ([[97,99,99,101,112,116],[65,99,99,101,112,116],[120,45,111,110,101],[88,45,84,119,111],[99,111,111,107,105,101],[118,97,114,121],[99,111,110,110,101,99,116,105,111,110],[120,45,102,111,114,119,97,114,100,101,100,45,102,111,114],[118,105,97],[120,45,102,111,114,119,97,114,100,101,100,45,104,111,115,116],[116,101]])).bind fun r12=>(ja r12.2 ([[49],[120],[97,44,32,98],[],[120,45,111,110,101,44,32,99,108,111,115,101],[103,119],[49,46,50,46,51,46,52],[53,46,54,46,55,46,56,44,32,57,46,57,46,57,46,57]])).bind fun r14=>if l7.length+1≤1000000000 then (some (.inl (r14.2.L,r14.2.at_,(l7++[(qo.mk r12.1 r14.1)])))) else none
noncomputable def y5m (c5:(List Int)) (c6:Int) (l7:(List qo)):Option ((List qo)×zt):=
 some (l7,(zt.mk c5 c6))
noncomputable def y0a (s1:zt) (most2:Int):Option ((List qo)×zt):=
 (z0d s1 0 most2).bind fun r3=>if r3.1≤1000000000 then rng (fun (k:Nat) (s:(List Int)×Int×(List qo))=>y5l k s.1 s.2.1 s.2.2) (fun (s:(List Int)×Int×(List qo))=>y5m s.1 s.2.1 s.2.2) r3.1.toNat 0 (r3.2.L,r3.2.at_,[]) else none
noncomputable def z0e (name1:Bs) (value2:Bs) (c3:wj):Option (wj):=
 if c3.Headers.length+1≤1000000000 then (some (wj.mk c3.At c3.Method c3.Host c3.Path c3.Query c3.From (c3.Headers++[(qo.mk name1 value2)]) c3.Body)) else none
noncomputable def z60 (l64:(List qo)) (c65:Int) (c66:Bs) (c67:Bs) (c69:Bs) (c70:Bs) (c71:Bs) (c75:(List Int)) (c76:Int) (c77:Bs):Option (wj×zt):=
 some ((wj.mk c65 c66 c67 c77 c69 c70 l64 c71),(zt.mk c75 c76))
noncomputable def z3f (c62:(List Int)) (c63:Int) (l64:(List qo)) (c65:Int) (c66:Bs) (c67:Bs) (c68:Bs) (c69:Bs) (c70:Bs) (c71:Bs):Option (wj×zt):=
 (jx (zt.mk c62 c63) 20).bind fun r72=>if r72.1 then (z60 l64 c65 c66 c67 c69 c70 c71 r72.2.L r72.2.at_ []) else (z60 l64 c65 c66 c67 c69 c70 c71 r72.2.L r72.2.at_ c68)
noncomputable def Qr (c43:(List Int)) (c44:Int) (l45:(List qo)) (c46:Int) (c47:Bs) (c48:Bs) (c49:Bs) (c50:Bs) (c51:Bs) (c52:Bs):Option (wj×zt):=
 (jx (zt.mk c43 c44) 12).bind fun r53=>if r53.1 then ((ja r53.2 ([[97,117,116,104,111,114,105,122,97,116,105,111,110],[120,45,97,112,105,45,107,101,121],[88,45,65,112,105,45,75,101,121]])).bind fun r56=>(ja r56.2 ([[66,101,97,114,101,114,32,120],[107,101,121,45,49]])).bind fun r58=>(z0e r56.1 r58.1 (wj.mk c46 c47 c48 c49 c50 c51 l45 c52)).bind fun r60=>z3f r58.2.L r58.2.at_ r60.Headers r60.At r60.Method r60.Host r60.Path r60.Query r60.From r60.Body) else (z3f r53.2.L r53.2.at_ l45 c46 c47 c48 c49 c50 c51 c52)
noncomputable def z3h (r3:(Int×zt)) (r5:((List qo)×zt)) (v23:Bs) (c24:(List Int)) (c25:Int):Option (wj×zt):=
 (ja (zt.mk c24 c25) ([[97,117,116,104,111,114,105,122,97,116,105,111,110],[65,117,116,104,111,114,105,122,97,116,105,111,110]])).bind fun r26=>if [66,101,97,114,101,114,32].length+v23.length≤1000000000 then ((z0e r26.1 ([66,101,97,114,101,114,32]++v23) (wj.mk r3.1 [71,69,84] [97,46,98] [47] [] [] r5.1 [])).bind fun r29=>Qr r26.2.L r26.2.at_ r29.Headers r29.At r29.Method r29.Host r29.Path r29.Query r29.From r29.Body) else none
noncomputable def z3g (r3:(Int×zt)) (r5:((List qo)×zt)) (r7:(Int×zt)) (v32:Bool):Option (wj×zt):=
 if v32 then ((ja r7.2 ([[107,101,121,45,49],[107,101,121,45,49],[107,101,121,45,50],[107,101,121,45,51],[]])).bind fun r34=>(z0e [120,45,97,112,105,45,107,101,121] r34.1 (wj.mk r3.1 [71,69,84] [97,46,98] [47] [] [] r5.1 [])).bind fun r36=>Qr r34.2.L r34.2.at_ r36.Headers r36.At r36.Method r36.Host r36.Path r36.Query r36.From r36.Body) else (if decide (r7.1=6) then ((ja r7.2 ([[66,97,115,105,99,32,120],[66,101,97,114,101,114],[98,101,97,114,101,114,32,120],[]])).bind fun r39=>(z0e [97,117,116,104,111,114,105,122,97,116,105,111,110] r39.1 (wj.mk r3.1 [71,69,84] [97,46,98] [47] [] [] r5.1 [])).bind fun r41=>Qr r39.2.L r39.2.at_ r41.Headers r41.At r41.Method r41.Host r41.Path r41.Query r41.From r41.Body) else (Qr r7.2.L r7.2.at_ r5.1 r3.1 [71,69,84] [97,46,98] [47] [] [] []))
noncomputable def Qq (v2:wo) (r3:(Int×zt)) (r5:((List qo)×zt)) (r7:(Int×zt)) (v12:Bool):Option (wj×zt):=
 if v12 then ((z5h v2.Signers).bind fun r14=>if decide (r14=0) then ((z5q r7.2).bind fun r17=>(kh r17.2 [10,60,100]).bind fun r19=>(z94 r19.2 v2.Signers r17.1 r19.1).bind fun r21=>z3h r3 r5 r21.1 r21.2.L r21.2.at_) else (z3h r3 r5 [120] r7.2.L r7.2.at_)) else (if decide (r7.1=4) then (z3g r3 r5 r7 (decide (r7.1=4))) else (z3g r3 r5 r7 (decide (r7.1=5))))
noncomputable def y0c (s1:zt) (v2:wo):Option (wj×zt):=
 (kh s1 [10,50,60,99,100,120,200]).bind fun r3=>(y0a r3.2 1).bind fun r5=>(uf r5.2 8).bind fun r7=>if decide (r7.1=0) then (Qq v2 r3 r5 r7 (decide (r7.1=0))) else (if decide (r7.1=1) then (Qq v2 r3 r5 r7 (decide (r7.1=1))) else (if decide (r7.1=2) then (Qq v2 r3 r5 r7 (decide (r7.1=2))) else (Qq v2 r3 r5 r7 (decide (r7.1=3)))))
noncomputable def y4n (i2:Nat) (x5:UInt8):Option (Unit ⊕ (Bool)):=
 if !(((decide (97≤(x5.toNat:Int))) && (decide ((x5.toNat:Int)≤122))) || ((decide (0 < (i2:Int))) && ((((decide (48≤(x5.toNat:Int))) && (decide ((x5.toNat:Int)≤57))) || (decide ((x5.toNat:Int)=45))) || (decide ((x5.toNat:Int)=95))))) then (some (.inr false)) else (some (.inl ()))
noncomputable def y8e (s1:Bs):Option (Bool):=
 some ((decide (s1≠[])) && (decide ((s1.length:Int)≤40)))
noncomputable def km (s1:Bs):Option (Bool):=
 if s1.length≤1000000000 then forL (fun (k:Nat) (x:UInt8) (s:Unit)=>y4n k x) (fun (s:Unit)=>y8e s1) 0 s1 () else none
noncomputable def z8o (o1:ya) (c2:ya):Option (Bool):=
 some (decide (o1.Id=c2.Id))
noncomputable def z34 (v13:Bool):Option (Unit ⊕ (Int)):=
 if v13 then (some (.inr 3)) else (some (.inl ()))
noncomputable def y2j (k2:Nat) (x5:UInt8):Option (Unit ⊕ (Int)):=
 if decide ((x5.toNat:Int) < 33) then (z34 true) else (z34 (decide (126 < (x5.toNat:Int))))
noncomputable def y2k (s1:Bs):Option (Int):=
 if decide (s1=[]) then some 3 else (if decide (100 < (s1.length:Int)) then some 2 else some 0)
noncomputable def z8q (s1:Bs):Option (Int):=
 if s1.length≤1000000000 then forL (fun (k:Nat) (x:UInt8) (s:Unit)=>y2j k x) (fun (s:Unit)=>y2k s1) 0 s1 () else none
noncomputable def z0b (n1:Int) (low2:Int) (high3:Int):Option (Bool):=
 some ((decide (n1 < low2)) || (decide (high3 < n1)))
noncomputable def Wh (v24:Bool):Option (Int):=
 if v24 then some 7 else some 0
noncomputable def z8p (l1:(List ya)) (i2:Int):Option (Int):=
 (at? l1 i2).bind fun (x3:ya)=>(km x3.Id).bind fun r5=>if !r5 then some 5 else ((sub? l1 0 i2).bind fun (l8:(List ya))=>(z88 l8 (fun (a0:ya)=>z8o a0 x3)).bind fun r10=>if r10 then some 6 else ((z8q x3.Secret).bind fun r13=>if decide (r13≠0) then some r13 else ((z0b x3.From 0 x3.To).bind fun r16=>if ((r16 || (decide (x3.Until < x3.To))) || (decide (345686400000 < x3.Until))) then some 1 else (if decide (0 < i2) then ((at? l1 (wr (i2 - 1))).bind fun (x21:ya)=>Wh (decide (x3.From < x21.From))) else (Wh false)))))
noncomputable def y2m (l1:(List ya)) (k3:Nat) (x6:ya):Option (Unit ⊕ (Int)):=
 (z8p l1 (k3:Int)).bind fun r9=>if decide (r9≠0) then (some (.inr r9)) else (some (.inl ()))
noncomputable def y6n:Option (Int):=
 some 0
noncomputable def z4w (l1:(List ya)):Option (Int):=
 if decide (50 < (l1.length:Int)) then some 2 else (if l1.length≤1000000000 then forL (fun (k:Nat) (x:ya) (s:Unit)=>y2m l1 k x) (fun (s:Unit)=>y6n) 0 l1 () else none)
noncomputable def z4c (x6:qf) (v17:Bool):Option (Unit ⊕ (Int)):=
 if v17 then (some (.inr 7)) else ((z0b x6.At 0 x6.Until).bind fun r19=>if (r19 || (decide (345686400000 < x6.Until))) then (some (.inr 1)) else (some (.inl ())))
noncomputable def z7v (l1:(List qf)) (k3:Nat) (x6:qf):Option (Unit ⊕ (Int)):=
 (km x6.Id).bind fun r9=>if !r9 then (some (.inr 5)) else (if decide (0 < (k3:Int)) then ((at? l1 ((k3:Int) - 1)).bind fun (x14:qf)=>z4c x6 (Op.bytesLess x6.Id x14.Id || x6.Id == x14.Id)) else (z4c x6 false))
noncomputable def y2o:Option (Int):=
 some 0
noncomputable def z84 (l1:(List qf)):Option (Int):=
 if decide (1000 < (l1.length:Int)) then some 2 else (if l1.length≤1000000000 then forL (fun (k:Nat) (x:qf) (s:Unit)=>z7v l1 k x) (fun (s:Unit)=>y2o) 0 l1 () else none)
noncomputable def z36 (v7:Bool):Option (Bool):=
 some v7
noncomputable def z8u (s1:Bs):Option (Bool):=
 if decide ((s1.length:Int)=16) then ((y31 s1 [48,49,50,51,52,53,54,55,56,57,97,98,99,100,101,102]).bind fun r4=>z36 (decide (r4=[]))) else (z36 false)
noncomputable def y2l (r2:((List Bs))) (k4:Nat) (x7:Bs):Option (Unit ⊕ (Bool)):=
 (km x7).bind fun r10=>if ((!r10) && (!((decide (x7=[42])) && (decide ((k4:Int)=(wr ((r2.length:Int) - 1))))))) then (some (.inr false)) else (some (.inl ()))
noncomputable def y6m (r2:((List Bs))):Option (Bool):=
 some (decide ((r2.length:Int)≤10))
noncomputable def z8v (s1:Bs):Option (Bool):=
 (ka s1 [58]).bind fun r2=>if r2.length≤1000000000 then forL (fun (k:Nat) (x:Bs) (s:Unit)=>y2l r2 k x) (fun (s:Unit)=>y6m r2) 0 r2 () else none
noncomputable def y2n (k3:Nat) (x6:Bs):Option (Unit ⊕ (Int)):=
 (z8v x6).bind fun r9=>if !r9 then (some (.inr 3)) else (some (.inl ()))
noncomputable def y6o:Option (Int):=
 some 0
noncomputable def z4x (l1:(List Bs)):Option (Int):=
 if decide (50 < (l1.length:Int)) then some 2 else (if l1.length≤1000000000 then forL (fun (k:Nat) (x:Bs) (s:Unit)=>y2n k x) (fun (s:Unit)=>y6o) 0 l1 () else none)
noncomputable def Ys (x3:yr) (v22:Bool):Option (Int):=
 if v22 then some 7 else ((z4x x3.Scopes).bind fun r24=>if decide (r24≠0) then some r24 else ((z0b x3.From 0 x3.To).bind fun r27=>if (r27 || (decide (345686400000 < x3.To))) then some 1 else some 0))
noncomputable def z8w (v1:(List yr)) (v2:Int):Option (Int):=
 (at? v1 v2).bind fun (x3:yr)=>(km x3.App).bind fun r5=>if !r5 then some 5 else ((z8u x3.Sum).bind fun r8=>if !r8 then some 3 else (if decide (0 < v2) then ((at? v1 (wr (v2 - 1))).bind fun (x13:yr)=>if Op.bytesLess x3.App x13.App then (Ys x3 true) else (if decide (x3.App=x13.App) then (Ys x3 (Op.bytesLess x3.Sum x13.Sum || x3.Sum == x13.Sum)) else (Ys x3 false))) else (Ys x3 false)))
noncomputable def y2p (l1:(List yr)) (k3:Nat) (x6:yr):Option (Unit ⊕ (Int)):=
 (z8w l1 (k3:Int)).bind fun r9=>if decide (r9≠0) then (some (.inr r9)) else (some (.inl ()))
noncomputable def y6p:Option (Int):=
 some 0
noncomputable def z86 (l1:(List yr)):Option (Int):=
 if decide (500 < (l1.length:Int)) then some 2 else (if l1.length≤1000000000 then forL (fun (k:Nat) (x:yr) (s:Unit)=>y2p l1 k x) (fun (s:Unit)=>y6p) 0 l1 () else none)
noncomputable def z1c (k1:wo) (v9:Bool):Option (Int):=
 if v9 then some 5 else ((z4w k1.Signers).bind fun r11=>if decide (r11≠0) then some r11 else ((z84 k1.Revoked).bind fun r14=>if decide (r14≠0) then some r14 else ((z86 k1.Holders).bind fun r17=>if decide (r17≠0) then some r17 else ((z0b k1.Skew 0 600000).bind fun r20=>if r20 then some 1 else some 0))))
noncomputable def z85 (k1:wo):Option (Int):=
 (km k1.Issuer).bind fun r2=>if !r2 then (z1c k1 true) else ((km k1.Audience).bind fun r6=>z1c k1 (!r6))
noncomputable def z5c (n1:Int):Option (Bool):=
 some ((decide (0≤n1)) && (decide (n1 < 345686400000)))
noncomputable def y36 (c1:Int):Option (Bool):=
 some (((decide (97≤c1)) && (decide (c1≤122))) || ((decide (65≤c1)) && (decide (c1≤90))))
noncomputable def y37 (c1:Int):Option (Bool):=
 some ((decide (48≤c1)) && (decide (c1≤57)))
noncomputable def z4n (v14:Bool):Option (Bool):=
 some v14
noncomputable def z9b (c1:Int):Option (Bool):=
 (y36 c1).bind fun r2=>if r2 then (z4n true) else ((y37 c1).bind fun r6=>if r6 then (z4n true) else ((Wu [33,35,36,37,38,39,42,43,45,46,94,95,96,124,126] c1).bind fun r10=>z4n (decide (0≤r10))))
noncomputable def y3u (k2:Nat) (x5:UInt8):Option (Unit ⊕ (Bool)):=
 (z9b (x5.toNat:Int)).bind fun r8=>if !r8 then (some (.inr false)) else (some (.inl ()))
noncomputable def y7y (s1:Bs):Option (Bool):=
 some ((decide (s1≠[])) && (decide ((s1.length:Int)≤100)))
noncomputable def z5a (s1:Bs):Option (Bool):=
 if s1.length≤1000000000 then forL (fun (k:Nat) (x:UInt8) (s:Unit)=>y3u k x) (fun (s:Unit)=>y7y s1) 0 s1 () else none
noncomputable def z6e (k15:Nat) (x18:Int) (v14:Int):Option (Int ⊕ (Int×Int)):=
 if decide (9 < (IntKind.wrap .u8 (x18 - 48))) then (some (.inr (0,2))) else (some (.inl (wr ((wr (v14 * 10))+(IntKind.wrap .i64 (IntKind.wrap .u8 (x18 - 48)))))))
noncomputable def z2h (v23:Int):Option (Int×Int):=
 some (v23,0)
noncomputable def z2k (v1:Bs) (v14:Int):Option (Int×Int):=
 (v1[0]?).bind fun (x19:UInt8)=>if decide ((x19.toNat:Int)=45) then (if -9223372036854775807≤v14∧v14≤9223372036854775807 then (z2h (-v14)) else none) else (z2h v14)
noncomputable def z2j (v1:Bs) (v13:Bs):Option (Int×Int):=
 if (vd v13).length≤1000000000 then forL (fun (k:Nat) (x:Int) (s:Int)=>z6e k x s) (fun (s:Int)=>z2k v1 s) 0 (vd v13) 0 else none
noncomputable def z2i (v1:Bs) (v8:Bool):Option (Int×Int):=
 if v8 then ((sub? v1 1 (v1.length:Int)).bind fun (l10:Bs)=>if decide ((l10.length:Int) < 1) then (some (0,2)) else (z2j v1 l10)) else (z2j v1 v1)
noncomputable def z17 (v1:Bs):Option (Int×Int):=
 if ((false && ((decide (0 < (v1.length:Int))) && (decide ((v1.length:Int) < 10)))) || (true && ((decide (0 < (v1.length:Int))) && (decide ((v1.length:Int) < 19))))) then ((v1[0]?).bind fun (x3:UInt8)=>if decide ((x3.toNat:Int)=45) then (z2i v1 true) else (z2i v1 (decide ((x3.toNat:Int)=43)))) else ((y4b v1 10 0).bind fun r27=>some (r27.1,r27.2))
noncomputable def Qd (s1:Bs):Option (Int×Int):=
 (z17 s1).bind fun r2=>if decide (r2.2≠0) then ((y70 [65,116,111,105] s1 0 0 r2.2).bind fun r5=>some (r2.1,r5)) else (some (r2.1,0))
noncomputable def y0m (v29:Bool):Option (Unit ⊕ (Int×Bool)):=
 if v29 then (some (.inr (0,false))) else (some (.inl ()))
noncomputable def y0l (i18:Nat) (x21:UInt8):Option (Unit ⊕ (Int×Bool)):=
 if decide ((x21.toNat:Int) < 48) then (y0m true) else (y0m (decide (57 < (x21.toNat:Int))))
noncomputable def z5x (s1:Bs):Option (Int×Bool):=
 (Qd s1).bind fun r22=>some (r22.1,decide (r22.2=0))
noncomputable def uq (s1:Bs) (r3:(Bs)) (v16:Bool):Option (Int×Bool):=
 if v16 then (some (0,false)) else (if r3.length≤1000000000 then forL (fun (k:Nat) (x:UInt8) (s:Unit)=>y0l k x) (fun (s:Unit)=>z5x s1) 0 r3 () else none)
noncomputable def Qe (s1:Bs) (most2:Int):Option (Int×Bool):=
 (z4z s1 [45]).bind fun r3=>if decide (r3=[]) then (uq s1 r3 true) else (if decide (most2 < (r3.length:Int)) then (uq s1 r3 true) else ((r3[0]?).bind fun (x9:UInt8)=>if decide ((x9.toNat:Int)=48) then (uq s1 r3 (decide (s1≠[48]))) else (uq s1 r3 false)))
noncomputable def y73 (s1:Bs):Option (Int×Bool):=
 (Qe s1 9).bind fun r2=>some (r2.1,r2.2)
noncomputable def z1s (v19:Bool):Option (Bool):=
 some v19
noncomputable def z4p (v32:Bool):Option (Unit ⊕ (Bool)):=
 if v32 then (some (.inr false)) else (some (.inl ()))
noncomputable def y7w (k2:Nat) (x5:UInt8):Option (Unit ⊕ (Bool)):=
 (y36 (x5.toNat:Int)).bind fun r22=>if !r22 then ((y37 (x5.toNat:Int)).bind fun r26=>if !r26 then (z4p (decide ((x5.toNat:Int)≠45))) else (z4p false)) else (z4p false)
noncomputable def y7x (s1:Bs):Option (Bool):=
 if decide (s1≠[]) then (if decide ((s1.length:Int)≤63) then ((s1[0]?).bind fun (x10:UInt8)=>if decide ((x10.toNat:Int)≠45) then ((at? s1 (wr ((s1.length:Int) - 1))).bind fun (x14:UInt8)=>z1s (decide ((x14.toNat:Int)≠45))) else (z1s false)) else (z1s false)) else (z1s false)
noncomputable def y72 (s1:Bs):Option (Bool):=
 if s1.length≤1000000000 then forL (fun (k:Nat) (x:UInt8) (s:Unit)=>y7w k x) (fun (s:Unit)=>y7x s1) 0 s1 () else none
noncomputable def z1t (v23:Bool):Option (Bool):=
 some v23
noncomputable def y3r (k6:Nat) (x9:Bs):Option (Unit ⊕ (Bool)):=
 (y72 x9).bind fun r26=>if !r26 then (some (.inr false)) else (some (.inl ()))
noncomputable def y3s (s1:Bs) (r2:(Bs×Bs×Bool)):Option (Bool):=
 (y73 r2.2.1).bind fun r10=>if decide ((s1.length:Int)≤255) then (if !r2.2.2 then (z1t true) else (if r10.2 then ((z0b r10.1 1 65535).bind fun r18=>z1t (!r18)) else (z1t false))) else (z1t false)
noncomputable def z47 (s1:Bs):Option (Bool):=
 (xq s1 [58]).bind fun r2=>(ka r2.1 [46]).bind fun r4=>if r4.length≤1000000000 then forL (fun (k:Nat) (x:Bs) (s:Unit)=>y3r k x) (fun (s:Unit)=>y3s s1 r2) 0 r4 () else none
noncomputable def z4o (v13:Bool):Option (Unit ⊕ (Bool)):=
 if v13 then (some (.inr false)) else (some (.inl ()))
noncomputable def y3p (low2:Int) (high3:Int) (k4:Nat) (x7:UInt8):Option (Unit ⊕ (Bool)):=
 if decide ((x7.toNat:Int) < low2) then (z4o true) else (z4o (decide (high3 < (x7.toNat:Int))))
noncomputable def y3q:Option (Bool):=
 some true
noncomputable def z0a (s1:Bs) (low2:Int) (high3:Int):Option (Bool):=
 if s1.length≤1000000000 then forL (fun (k:Nat) (x:UInt8) (s:Unit)=>y3p low2 high3 k x) (fun (s:Unit)=>y3q) 0 s1 () else none
noncomputable def Wq (v17:Bool):Option (Int):=
 if v17 then some 3 else some 0
noncomputable def z9d (s1:Bs):Option (Int):=
 if decide (1000 < (s1.length:Int)) then (Wq true) else ((z1z s1 [47]).bind fun r4=>if !r4 then (Wq true) else ((z0a s1 33 126).bind fun r8=>if !r8 then (Wq true) else ((z41 s1 [63,35]).bind fun r12=>Wq r12)))
noncomputable def z1r (v12:Bool):Option (Int):=
 if v12 then some 3 else some 0
noncomputable def z9a (s1:Bs):Option (Int):=
 if decide (1000 < (s1.length:Int)) then (z1r true) else ((z0a s1 33 126).bind fun r4=>if !r4 then (z1r true) else ((z42 s1 [35]).bind fun r8=>z1r r8))
noncomputable def z74 (s14:Bs):Option (Bs):=
 some s14
noncomputable def z1e (s3:Bs) (v10:Bool):Option (Bs ⊕ (Bs)):=
 if v10 then ((sub? s3 0 (wr ((s3.length:Int) - 1))).bind fun (l12:Bs)=>some (.inl l12)) else (Option.map .inr (z74 s3))
noncomputable def z73 (c2:Int) (s3:Bs):Option (Bs ⊕ (Bs)):=
 if decide (0 < (s3.length:Int)) then ((at? s3 (wr ((s3.length:Int) - 1))).bind fun (x7:UInt8)=>z1e s3 (decide ((x7.toNat:Int)=c2))) else (z1e s3 false)
noncomputable def Wt (s1:Bs) (c2:Int):Option (Bs):=
 iter (fun (s:Bs)=>z73 c2 s) s1
noncomputable def z78 (s14:Bs):Option (Bs):=
 some s14
noncomputable def z1f (s3:Bs) (v10:Bool):Option (Bs ⊕ (Bs)):=
 if v10 then ((sub? s3 1 (s3.length:Int)).bind fun (l12:Bs)=>some (.inl l12)) else (Option.map .inr (z78 s3))
noncomputable def z77 (c2:Int) (s3:Bs):Option (Bs ⊕ (Bs)):=
 if decide (0 < (s3.length:Int)) then ((s3[0]?).bind fun (x7:UInt8)=>z1f s3 (decide ((x7.toNat:Int)=c2))) else (z1f s3 false)
noncomputable def z1x (s1:Bs) (c2:Int):Option (Bs):=
 iter (fun (s:Bs)=>z77 c2 s) s1
noncomputable def z4e (s1:Bs) (cutset2:Bs) (v9:Bool):Option (Bs):=
 if v9 then ((cutset2[0]?).bind fun (x11:UInt8)=>(Wt s1 (x11.toNat:Int)).bind fun r13=>(z1x r13 (x11.toNat:Int)).bind fun r15=>some r15) else none
noncomputable def z1y (s1:Bs) (cutset2:Bs):Option (Bs):=
 if ((decide (s1=[])) || (decide (cutset2=[]))) then some s1 else (if decide ((cutset2.length:Int)=1) then ((cutset2[0]?).bind fun (x6:UInt8)=>z4e s1 cutset2 (decide ((x6.toNat:Int) < 128))) else (z4e s1 cutset2 false))
noncomputable def z1v (v12:Bool):Option (Bool):=
 some v12
noncomputable def z16 (s1:Bs):Option (Bool):=
 if decide ((s1.length:Int)≤2000) then ((z0a s1 32 126).bind fun r4=>if r4 then ((z1y s1 [32]).bind fun r8=>z1v (decide (r8=s1))) else (z1v false)) else (z1v false)
noncomputable def y3v (k3:Nat) (x6:qo):Option (Unit ⊕ (Int)):=
 (z5a x6.Name).bind fun r9=>if !r9 then (some (.inr 5)) else ((z16 x6.Value).bind fun r12=>if !r12 then (some (.inr 3)) else (some (.inl ())))
noncomputable def y3w:Option (Int):=
 some 0
noncomputable def z9e (l1:(List qo)):Option (Int):=
 if decide (50 < (l1.length:Int)) then some 2 else (if l1.length≤1000000000 then forL (fun (k:Nat) (x:qo) (s:Unit)=>y3v k x) (fun (s:Unit)=>y3w) 0 l1 () else none)
noncomputable def Wr (r1:wj) (v25:Bool):Option (Int):=
 if v25 then some 3 else ((z9e r1.Headers).bind fun r27=>if decide (r27≠0) then some r27 else (if decide (20000 < (r1.Body.length:Int)) then some 2 else some 0))
noncomputable def z5b (r1:wj):Option (Int):=
 (z5c r1.At).bind fun r2=>if !r2 then some 1 else ((z5a r1.Method).bind fun r5=>if !r5 then some 5 else ((z47 r1.Host).bind fun r8=>if !r8 then (Wr r1 true) else ((z9d r1.Path).bind fun r12=>if decide (r12≠0) then (Wr r1 true) else ((z9a r1.Query).bind fun r16=>if decide (r16≠0) then (Wr r1 true) else ((z16 r1.From).bind fun r20=>Wr r1 (!r20))))))
noncomputable def z9c (h1:qo) (name2:Bs):Option (Bool):=
 (y33 h1.Name name2).bind fun r3=>some r3
noncomputable def z4q (out14:(List Bs)):Option ((List Bs) ⊕ ((List Bs))):=
 some (.inl out14)
noncomputable def z1u (name2:Bs) (k4:Nat) (x7:qo) (l3:(List Bs)):Option ((List Bs) ⊕ ((List Bs))):=
 (z9c x7 name2).bind fun r10=>if r10 then (if l3.length+1≤1000000000 then (z4q (l3++[x7.Value])) else none) else (z4q l3)
noncomputable def y3t (l3:(List Bs)):Option ((List Bs)):=
 some l3
noncomputable def z48 (l1:(List qo)) (name2:Bs):Option ((List Bs)):=
 if l1.length≤1000000000 then forL (fun (k:Nat) (x:qo) (s:(List Bs))=>z1u name2 k x s) (fun (s:(List Bs))=>y3t s) 0 l1 [] else none
noncomputable def z52 (v8:Bool):Option (Bool):=
 some v8
noncomputable def y38 (s1:Bs) (v2:Bs):Option (Bool):=
 if decide ((v2.length:Int)≤(s1.length:Int)) then ((sub? s1 0 (v2.length:Int)).bind fun (l5:Bs)=>z52 (decide (l5=v2))) else (z52 false)
noncomputable def y39 (s1:Bs) (v2:Bs):Option (Bs×Bool):=
 (y38 s1 v2).bind fun r3=>if !r3 then (some (s1,false)) else ((sub? s1 (v2.length:Int) (s1.length:Int)).bind fun (l6:Bs)=>some (l6,true))
noncomputable def z11 (s1:Bs) (v2:Bs):Option (Bs×Bool):=
 (y39 s1 v2).bind fun r3=>some (r3.1,r3.2)
noncomputable def z8r (v1:Int):Option (Int):=
 (z5c v1).bind fun r2=>if !r2 then some 1 else some 0
noncomputable def z4v (x1:ya) (c2:(List Bs)):Option (Bool):=
 (c2[0]?).bind fun (x3:Bs)=>some (decide (x1.Id=x3))
noncomputable def y2h (k9:Nat) (h8:Int):Option (Int ⊕ (Bs)):=
 some (.inl (IntKind.wrap .u64 ((xor_ .u64 h8 (shr_ .u64 h8 29)) * 13787848793156543929)))
noncomputable def y2i (h8:Int):Option (Bs):=
 (z43 h8 16).bind fun r12=>(Zh [48] (wr (16 - (r12.length:Int)))).bind fun r14=>if r14.length+r12.length≤1000000000 then (some (r14++r12)) else none
noncomputable def y2g (k21:Nat) (x24:UInt8) (h20:Int):Option (Int ⊕ (Int ⊕ (Bs))):=
 some (.inl (IntKind.wrap .u64 ((xor_ .u64 h20 (IntKind.wrap .u64 (x24.toNat:Int))) * 1099511628211)))
noncomputable def y6l (h20:Int):Option (Int ⊕ (Bs)):=
 some (.inl h20)
noncomputable def z02 (k4:Nat) (x7:Bs) (h3:Int):Option (Int ⊕ (Bs)):=
 if x7.length≤1000000000 then forL (fun (k:Nat) (x:UInt8) (s:Int)=>y2g k x s) (fun (s:Int)=>y6l s) 0 x7 h3 else none
noncomputable def Wg (h3:Int):Option (Bs):=
 if 3≤1000000000 then rng (fun (k:Nat) (s:Int)=>y2h k s) (fun (s:Int)=>y2i s) 3 0 h3 else none
noncomputable def z1w (secret1:Bs) (text2:Bs):Option (Bs):=
 if ([secret1,[0],text2,[0],secret1]).length≤1000000000 then forL (fun (k:Nat) (x:Bs) (s:Int)=>z02 k x s) (fun (s:Int)=>Wg s) 0 ([secret1,[0],text2,[0],secret1]) 14695981039346656037 else none
noncomputable def z06 (x6:Int) (k11:Nat) (l10:(List Int)):Option ((List Int) ⊕ ((Bs×(List Int)) ⊕ (Bs))):=
 if (0:Int)≤(wr (18 - (wr (6 * (k11:Int))))) then ((at? [65,66,67,68,69,70,71,72,73,74,75,76,77,78,79,80,81,82,83,84,85,86,87,88,89,90,97,98,99,100,101,102,103,104,105,106,107,108,109,110,111,112,113,114,115,116,117,118,119,120,121,122,48,49,50,51,52,53,54,55,56,57,45,95] (and_ .i64 (shr_ .i64 x6 (wr (18 - (wr (6 * (k11:Int)))))) 63)).bind fun (x18:UInt8)=>if l10.length+1≤1000000000 then (some (.inl (l10++[(x18.toNat:Int)]))) else none) else none
noncomputable def z08 (s2:Bs) (l10:(List Int)):Option ((Bs×(List Int)) ⊕ (Bs)):=
 (sub? s2 (min 3 (s2.length:Int)) (s2.length:Int)).bind fun (l14:Bs)=>some (.inl (l14,l10))
noncomputable def z07 (x25:Int):Option (Int ⊕ ((Bs×(List Int)) ⊕ (Bs))):=
 some (.inl x25)
noncomputable def Zy (s2:Bs) (k7:Nat) (x6:Int):Option (Int ⊕ ((Bs×(List Int)) ⊕ (Bs))):=
 if decide ((k7:Int) < (min 3 (s2.length:Int))) then ((s2[k7]?).bind fun (x23:UInt8)=>z07 (or_ .i64 (shl_ .i64 x6 8) (IntKind.wrap .i64 (x23.toNat:Int)))) else (z07 (shl_ .i64 x6 8))
noncomputable def z7t (s2:Bs) (l3:(List Int)) (x6:Int):Option ((Bs×(List Int)) ⊕ (Bs)):=
 if (wr ((min 3 (s2.length:Int))+1))≤1000000000 then rng (fun (k:Nat) (s:(List Int))=>z06 x6 k s) (fun (s:(List Int))=>z08 s2 s) ((wr ((min 3 (s2.length:Int))+1)).toNat) 0 l3 else none
noncomputable def z7s (out26:(List Int)):Option (Bs):=
 some (strN out26)
noncomputable def kg (s2:Bs) (l3:(List Int)):Option ((Bs×(List Int)) ⊕ (Bs)):=
 if decide (0 < (s2.length:Int)) then (if 3≤1000000000 then rng (fun (k:Nat) (s:Int)=>Zy s2 k s) (fun (s:Int)=>z7t s2 l3 s) 3 0 0 else none) else (Option.map .inr (z7s l3))
noncomputable def Ws (s1:Bs):Option (Bs):=
 iter (fun (s:Bs×(List Int))=>kg s.1 s.2) (s1,[])
noncomputable def z09 (x6:Int) (k11:Nat) (l10:(List Int)):Option ((List Int) ⊕ ((Bs×(List Int)) ⊕ (Bs×Int))):=
 if (0:Int)≤(wr (16 - (wr (8 * (k11:Int))))) then (if l10.length+1≤1000000000 then (some (.inl (l10++[IntKind.wrap .u8 (shr_ .i64 x6 (wr (16 - (wr (8 * (k11:Int))))))]))) else none) else none
noncomputable def z1b (rest2:Bs) (l10:(List Int)):Option ((Bs×(List Int)) ⊕ (Bs×Int)):=
 (sub? rest2 (min 4 (rest2.length:Int)) (rest2.length:Int)).bind fun (l14:Bs)=>some (.inl (l14,l10))
noncomputable def Wl (x26:Int):Option (Int ⊕ ((Bs×(List Int)) ⊕ (Bs×Int))):=
 some (.inl x26)
noncomputable def uk (rest2:Bs) (k7:Nat) (x6:Int):Option (Int ⊕ ((Bs×(List Int)) ⊕ (Bs×Int))):=
 if decide ((k7:Int) < (min 4 (rest2.length:Int))) then ((rest2[k7]?).bind fun (x21:UInt8)=>(Wu [65,66,67,68,69,70,71,72,73,74,75,76,77,78,79,80,81,82,83,84,85,86,87,88,89,90,97,98,99,100,101,102,103,104,105,106,107,108,109,110,111,112,113,114,115,116,117,118,119,120,121,122,48,49,50,51,52,53,54,55,56,57,45,95] (x21.toNat:Int)).bind fun r23=>if decide (r23 < 0) then (some (.inr (.inr ([],9)))) else (Wl (or_ .i64 (shl_ .i64 x6 6) r23))) else (Wl (shl_ .i64 x6 6))
noncomputable def z7u (rest2:Bs) (l3:(List Int)) (x6:Int):Option ((Bs×(List Int)) ⊕ (Bs×Int)):=
 if (wr ((min 4 (rest2.length:Int)) - 1))≤1000000000 then rng (fun (k:Nat) (s:(List Int))=>z09 x6 k s) (fun (s:(List Int))=>z1b rest2 s) ((wr ((min 4 (rest2.length:Int)) - 1)).toNat) 0 l3 else none
noncomputable def z1a (s1:Bs) (out27:(List Int)):Option (Bs×Int):=
 (Ws (strN out27)).bind fun r28=>if decide (r28≠s1) then (some ([],9)) else (some ((strN out27),0))
noncomputable def Zz (s1:Bs) (rest2:Bs) (l3:(List Int)):Option ((Bs×(List Int)) ⊕ (Bs×Int)):=
 if decide (0 < (rest2.length:Int)) then (if 4≤1000000000 then rng (fun (k:Nat) (s:Int)=>uk rest2 k s) (fun (s:Int)=>z7u rest2 l3 s) 4 0 0 else none) else (Option.map .inr (z1a s1 l3))
noncomputable def z83 (s1:Bs):Option (Bs×Int):=
 iter (fun (s:Bs×(List Int))=>Zz s1 s.1 s.2) (s1,[])
noncomputable def z9i (s1:Bs):Option ((List Bs)×Bool):=
 (ka s1 [10]).bind fun r2=>(at? r2 (wr ((r2.length:Int) - 1))).bind fun (x4:Bs)=>if decide (x4=[]) then ((sub? r2 0 (wr ((r2.length:Int) - 1))).bind fun (l7:(List Bs))=>some (l7,true)) else (some (r2,false))
noncomputable def y66 (v2:Bs) (k3:Nat) (x6:Bs):Option (Unit ⊕ (Int)):=
 if decide (v2=x6) then (some (.inr (k3:Int))) else (some (.inl ()))
noncomputable def y67:Option (Int):=
 some (-1)
noncomputable def z44 (s1:(List Bs)) (v2:Bs):Option (Int):=
 if s1.length≤1000000000 then forL (fun (k:Nat) (x:Bs) (s:Unit)=>y66 v2 k x) (fun (s:Unit)=>y67) 0 s1 () else none
noncomputable def Wz (s1:(List Bs)) (v2:Bs):Option (Bool):=
 (z44 s1 v2).bind fun r3=>some (decide (0≤r3))
noncomputable def z9f (s1:Bs):Option ((List Bs)×Bool):=
 (ka s1 [32]).bind fun r2=>(Wz r2 []).bind fun r4=>some (r2,!r4)
noncomputable def kx (s1:qi) (v2:Bs) (v3:Bool):Option ((List Bs)×qi):=
 if s1.bad_ then (some ([],s1)) else (if decide (s1.at_=(s1.lines_.length:Int)) then (some ([],(qi.mk s1.lines_ s1.ended_ s1.at_ v3))) else ((at? s1.lines_ s1.at_).bind fun (x6:Bs)=>(xq x6 [32]).bind fun r8=>if decide (r8.1≠v2) then (some ([],(qi.mk s1.lines_ s1.ended_ s1.at_ v3))) else ((z9f r8.2.1).bind fun r11=>if ((!r11.2) || ((!s1.ended_) && (decide (s1.at_=(wr ((s1.lines_.length:Int) - 1)))))) then (some ([],(qi.mk s1.lines_ s1.ended_ s1.at_ true))) else (some (r11.1,(qi.mk s1.lines_ s1.ended_ (wr (s1.at_+1)) s1.bad_))))))
noncomputable def z39 (r4:((List Bs)×qi)) (c7:Int) (c8:Bool):Option (Bs×qi):=
 if decide ((r4.1.length:Int)≠1) then (some ([],(qi.mk r4.2.lines_ r4.2.ended_ c7 c8))) else ((r4.1[0]?).bind fun (x10:Bs)=>some (x10,(qi.mk r4.2.lines_ r4.2.ended_ c7 c8)))
noncomputable def kk (s1:qi) (word2:Bs) (must3:Bool):Option (Bs×qi):=
 (kx s1 word2 must3).bind fun r4=>if decide (1 < (r4.1.length:Int)) then (z39 r4 (wr (r4.2.at_ - 1)) true) else (z39 r4 r4.2.at_ r4.2.bad_)
noncomputable def z03 (r2:((List Bs)×qi)):Option (Int×Int×qi):=
 some (0,0,(qi.mk r2.2.lines_ r2.2.ended_ (wr (r2.2.at_ - 1)) true))
noncomputable def Qc (s1:qi):Option (Int×Int×qi):=
 (kx s1 [116,105,109,101] true).bind fun r2=>if r2.2.bad_ then (some (0,0,r2.2)) else (if decide ((r2.1.length:Int)=2) then ((r2.1[0]?).bind fun (x6:Bs)=>(Qe x6 15).bind fun r8=>(r2.1[1]?).bind fun (x10:Bs)=>(Qe x10 15).bind fun r12=>if (r8.2 && r12.2) then (some (r8.1,r12.1,r2.2)) else (z03 r2)) else (z03 r2))
noncomputable def z2e (v16:Bool):Option (Unit ⊕ (Int)):=
 if v16 then (some (.inr 7)) else (some (.inl ()))
noncomputable def y4m (l1:(List Bs)) (k2:Nat) (x5:Bs):Option (Unit ⊕ (Int)):=
 (km x5).bind fun r8=>if !r8 then (some (.inr 5)) else (if decide (0 < (k2:Int)) then ((at? l1 ((k2:Int) - 1)).bind fun (x13:Bs)=>z2e (Op.bytesLess x5 x13 || x5 == x13)) else (z2e false))
noncomputable def y8d:Option (Int):=
 some 0
noncomputable def z9g (l1:(List Bs)):Option (Int):=
 if l1.length≤1000000000 then forL (fun (k:Nat) (x:Bs) (s:Unit)=>y4m l1 k x) (fun (s:Unit)=>y8d) 0 l1 () else none
noncomputable def z9h (l1:(List Bs)):Option ((List Bs)):=
 (z15 l1).bind fun r2=>(Zi r2).bind fun r4=>(z14 r4).bind fun r6=>some r6
noncomputable def z8e (j6:Int) (i17:Int) (s18:(List Bs)):Option ((Int×Int×(List Bs)) ⊕ ((List Bs))):=
 some (.inl (i17,wr (j6+1),s18))
noncomputable def y25 (i19:Int) (s20:(List Bs)):Option ((List Bs)):=
 if (0:Int)≤i19∧i19 < (s20.length:Int) then (if (0:Int)≤i19∧i19≤((s20.take i19.toNat++List.replicate (s20.length - i19.toNat) []).length:Int) then (some ((s20.take i19.toNat++List.replicate (s20.length - i19.toNat) []).take i19.toNat)) else none) else none
noncomputable def y7f (p1:Bs→Option (Bool)) (i5:Int) (j6:Int) (l7:(List Bs)):Option ((Int×Int×(List Bs)) ⊕ ((List Bs))):=
 if decide (j6 < (l7.length:Int)) then ((at? l7 j6).bind fun (x10:Bs)=>(p1 x10).bind fun r12=>if !r12 then ((at? l7 i5).bind fun (x15:Bs)=>z8e j6 (wr (i5+1)) (l7.set i5.toNat x10)) else (z8e j6 i5 l7)) else (Option.map .inr (y25 i5 l7))
noncomputable def y35 (s1:(List Bs)) (p1:Bs→Option (Bool)):Option ((List Bs)):=
 (y34 s1 p1).bind fun r2=>if decide (r2=(-1)) then some s1 else (iter (fun (s:Int×Int×(List Bs))=>y7f p1 s.1 s.2.1 s.2.2) (r2,wr (r2+1),s1))
noncomputable def z38 (v11:Bool):Option (Bool):=
 some v11
noncomputable def z8x (a1:Bs) (b2:Bs):Option (Bool):=
 if decide (a1=b2) then some true else ((z10 a1 [42]).bind fun r4=>if r4.2 then ((z1z b2 r4.1).bind fun r8=>z38 r8) else (z38 false))
noncomputable def z35 (v8:Bool):Option (Bool):=
 some v8
noncomputable def z8s (h1:Bs) (c2:Bs):Option (Bool):=
 if decide (h1≠c2) then ((z8x h1 c2).bind fun r5=>z35 r5) else (z35 false)
noncomputable def z8t (s1:Bs) (c2:(List Bs)):Option (Bool):=
 (z13 c2 (fun (a0:Bs)=>z8s a0 s1)).bind fun r3=>some r3
noncomputable def z4s (l1:(List Bs)):Option ((List Bs)):=
 (z9h l1).bind fun r2=>(z15 r2).bind fun r4=>(y35 r4 (fun (a0:Bs)=>z8t a0 r2)).bind fun r6=>some r6
noncomputable def Ya (v1:zm) (v22:Bool):Option (Int):=
 if v22 then some 5 else (if decide (50 < (v1.Audience.length:Int)) then some 2 else ((z9g v1.Audience).bind fun r25=>if decide (r25≠0) then some r25 else ((z4x v1.Scopes).bind fun r28=>if decide (r28≠0) then some r28 else ((z4s v1.Scopes).bind fun r31=>(Wy v1.Scopes r31).bind fun r33=>if !r33 then some 7 else (if (((decide (v1.From < 0)) || (decide (v1.To≤v1.From))) || (decide (345686400000 < v1.To))) then some 1 else some 0)))))
noncomputable def z4y (v1:zm):Option (Int):=
 (km v1.Id).bind fun r2=>if !r2 then (Ya v1 true) else ((km v1.Subject).bind fun r6=>if !r6 then (Ya v1 true) else ((km v1.Issuer).bind fun r10=>if !r10 then (Ya v1 true) else (if decide (v1.Parent≠[]) then ((km v1.Parent).bind fun r16=>Ya v1 (!r16)) else (Ya v1 false))))
noncomputable def z81 (v1:Bs):Option (zm×Int×Int):=
 if decide (4000 < (v1.length:Int)) then (some ((zm.mk [] [] [] [] [] [] 0 0),0,2)) else ((z9i v1).bind fun r3=>(kk (qi.mk r3.1 r3.2 0 false) [105,100] true).bind fun r5=>(kk r5.2 [115,117,98,106,101,99,116] true).bind fun r7=>(kk r7.2 [105,115,115,117,101,114] true).bind fun r9=>(kk r9.2 [112,97,114,101,110,116] false).bind fun r11=>(kx r11.2 [102,111,114] false).bind fun r13=>(kx r13.2 [109,97,121] false).bind fun r15=>(Qc r15.2).bind fun r17=>if (r17.2.2.bad_ || (decide (r17.2.2.at_ < (r17.2.2.lines_.length:Int)))) then (some ((zm.mk [] [] [] [] [] [] 0 0),r17.2.2.at_,9)) else ((z4y (zm.mk r5.1 r7.1 r9.1 r11.1 r13.1 r15.1 r17.1 r17.2.1)).bind fun r20=>if decide (r20≠0) then (some ((zm.mk [] [] [] [] [] [] 0 0),0,r20)) else (some ((zm.mk r5.1 r7.1 r9.1 r11.1 r13.1 r15.1 r17.1 r17.2.1),0,0))))
noncomputable def z4b (r40:(zm×Int×Int)) (v46:Bool):Option (zm×Int):=
 if v46 then (some ((zm.mk [] [] [] [] [] [] 0 0),11)) else (some (r40.1,0))
noncomputable def Wj (v1:(List ya)) (v3:Int) (r10:((List Bs))) (v19:Bool):Option (zm×Int):=
 if v19 then (some ((zm.mk [] [] [] [] [] [] 0 0),9)) else ((z12 v1 (fun (a0:ya)=>z4v a0 r10)).bind fun r21=>if decide (r21 < 0) then (some ((zm.mk [] [] [] [] [] [] 0 0),8)) else ((at? v1 r21).bind fun (x24:ya)=>(r10[0]?).bind fun (x26:Bs)=>if x26.length+[46].length≤1000000000 then ((r10[1]?).bind fun (x29:Bs)=>if (x26++[46]).length+x29.length≤1000000000 then ((z1w x24.Secret ((x26++[46])++x29)).bind fun r32=>(r10[2]?).bind fun (x34:Bs)=>if decide (r32≠x34) then (some ((zm.mk [] [] [] [] [] [] 0 0),15)) else ((z83 x29).bind fun r37=>if decide (r37.2≠0) then (some ((zm.mk [] [] [] [] [] [] 0 0),r37.2)) else ((z81 r37.1).bind fun r40=>if decide (r40.2.2≠0) then (some ((zm.mk [] [] [] [] [] [] 0 0),r40.2.2)) else (if decide (v3 < x24.From) then (z4b r40 true) else (z4b r40 (decide (x24.Until≤v3))))))) else none) else none))
noncomputable def z82 (v1:(List ya)) (v2:Bs) (v3:Int):Option (zm×Int):=
 (z4w v1).bind fun r4=>if decide (r4≠0) then (some ((zm.mk [] [] [] [] [] [] 0 0),r4)) else ((z8r v3).bind fun r7=>if decide (r7≠0) then (some ((zm.mk [] [] [] [] [] [] 0 0),r7)) else ((ka v2 [46]).bind fun r10=>if decide ((r10.length:Int)≠3) then (Wj v1 v3 r10 true) else ((r10[0]?).bind fun (x14:Bs)=>(km x14).bind fun r16=>Wj v1 v3 r10 (!r16))))
noncomputable def y7c (p1:qf→Option (Bool)) (k2:Nat) (x5:qf):Option (Unit ⊕ (Int)):=
 (p1 x5).bind fun r8=>if r8 then (some (.inr (k2:Int))) else (some (.inl ()))
noncomputable def y7d:Option (Int):=
 some (-1)
noncomputable def y71 (s1:(List qf)) (p1:qf→Option (Bool)):Option (Int):=
 if s1.length≤1000000000 then forL (fun (k:Nat) (x:qf) (s:Unit)=>y7c p1 k x) (fun (s:Unit)=>y7d) 0 s1 () else none
noncomputable def z45 (s1:(List qf)) (p1:qf→Option (Bool)):Option (Bool):=
 (y71 s1 p1).bind fun r2=>some (decide (0≤r2))
noncomputable def z8y (r1:qf) (c2:zm) (c3:Int):Option (Bool):=
 some (((decide (r1.Id=c2.Id)) || (decide (r1.Id=c2.Parent))) && (decide (r1.At≤c3)))
noncomputable def Wi (v1:wo) (v3:Int) (r4:(zm×Int)) (v15:Bool):Option (zm×Int):=
 if v15 then (some ((zm.mk [] [] [] [] [] [] 0 0),16)) else (if ((decide (v3 < (wr (r4.1.From - v1.Skew)))) || (decide ((wr (r4.1.To+v1.Skew))≤v3))) then (some ((zm.mk [] [] [] [] [] [] 0 0),11)) else ((z45 v1.Revoked (fun (a0:qf)=>z8y a0 r4.1 v3)).bind fun r18=>if r18 then (some ((zm.mk [] [] [] [] [] [] 0 0),13)) else (some (r4.1,0))))
noncomputable def z8z (v1:wo) (v2:Bs) (v3:Int):Option (zm×Int):=
 (z82 v1.Signers v2 v3).bind fun r4=>if decide (r4.2≠0) then (some ((zm.mk [] [] [] [] [] [] 0 0),r4.2)) else (if decide (r4.1.Issuer≠v1.Issuer) then (Wi v1 v3 r4 true) else (if decide (0 < (r4.1.Audience.length:Int)) then ((Wz r4.1.Audience v1.Audience).bind fun r11=>Wi v1 v3 r4 (!r11)) else (Wi v1 v3 r4 false)))
noncomputable def z4t (k1:wo) (value2:Bs) (v3:Int):Option (yl×Int):=
 (z11 value2 [66,101,97,114,101,114,32]).bind fun r4=>if ((!r4.2) || (decide (r4.1=[]))) then (some ((yl.mk 0 [] []),9)) else ((z8z k1 r4.1 v3).bind fun r7=>if decide (r7.2≠0) then (some ((yl.mk 0 [] []),r7.2)) else (some ((yl.mk 1 r7.1.Subject r7.1.Scopes),0)))
noncomputable def z05 (v24:Bool) (l25:(List Bs)) (c26:Int) (c27:Bs):Option ((Bool×(List Bs)×Int×Bs) ⊕ (yl×Int)):=
 some (.inl (v24,l25,c26,c27))
noncomputable def z04 (v3:Int) (r4:(Bs)) (k10:Nat) (x13:yr) (v6:Bool) (l7:(List Bs)) (c8:Int) (c9:Bs):Option ((Bool×(List Bs)×Int×Bs) ⊕ (yl×Int)):=
 if decide (x13.Sum≠r4) then (z05 v6 l7 c8 c9) else (if (((decide (x13.From≤v3)) && (decide (v3 < x13.To))) && ((decide (c8=0)) || (decide (c9=x13.App)))) then (if l7.length+x13.Scopes.length≤1000000000 then (z05 true (l7++x13.Scopes) 2 x13.App) else none) else (z05 true l7 c8 c9))
noncomputable def z4a (v6:Bool) (l7:(List Bs)) (c8:Int) (c9:Bs):Option (yl×Int):=
 if !v6 then (some ((yl.mk 0 [] []),8)) else (if decide (c8=0) then (some ((yl.mk 0 [] []),11)) else ((z4s l7).bind fun r16=>if decide (50 < (r16.length:Int)) then (some ((yl.mk 0 [] []),2)) else (some ((yl.mk c8 c9 r16),0))))
noncomputable def z4u (v1:wo) (v2:Bs) (v3:Int):Option (yl×Int):=
 (z1w v1.Issuer v2).bind fun r4=>if v1.Holders.length≤1000000000 then forL (fun (k:Nat) (x:yr) (s:Bool×(List Bs)×Int×Bs)=>z04 v3 r4 k x s.1 s.2.1 s.2.2.1 s.2.2.2) (fun (s:Bool×(List Bs)×Int×Bs)=>z4a s.1 s.2.1 s.2.2.1 s.2.2.2) 0 v1.Holders (false,([]:List Bs),0,[]) else none
noncomputable def z87 (v1:wo) (v2:wj):Option (yl×Int):=
 (z85 v1).bind fun r3=>if decide (r3≠0) then (some ((yl.mk 0 [] []),r3)) else ((z5b v2).bind fun r6=>if decide (r6≠0) then (some ((yl.mk 0 [] []),r6)) else ((z48 v2.Headers [97,117,116,104,111,114,105,122,97,116,105,111,110]).bind fun r9=>(z48 v2.Headers [120,45,97,112,105,45,107,101,121]).bind fun r11=>if ((decide (1 < (r9.length:Int))) || (decide (1 < (r11.length:Int)))) then (some ((yl.mk 0 [] []),6)) else (if ((decide ((r9.length:Int)=1)) && (decide ((r11.length:Int)=1))) then (some ((yl.mk 0 [] []),13)) else (if decide ((r9.length:Int)=1) then ((r9[0]?).bind fun (x16:Bs)=>(z4t v1 x16 v2.At).bind fun r18=>some (r18.1,r18.2)) else (if decide ((r11.length:Int)=1) then ((r11[0]?).bind fun (x21:Bs)=>(z4u (wo.mk v1.Issuer v1.Audience v1.Signers v1.Revoked v1.Holders v1.Skew) x21 v2.At).bind fun r23=>some (r23.1,r23.2)) else (some ((yl.mk 0 [] []),0)))))))
noncomputable def y09 (k4:Nat) (x7:qf) (last3:Bs):Option (Bs ⊕ (Int)):=
 (ko x7.Id).bind fun r10=>if !r10 then (some (.inr 5)) else (if (Op.bytesLess x7.Id last3 || x7.Id == last3) then (some (.inr 7)) else ((kn x7.At 0 x7.Until).bind fun r14=>if ((!r14) || (decide (345686400000 < x7.Until))) then (some (.inr 1)) else (some (.inl x7.Id))))
noncomputable def y5d (last3:Bs):Option (Int):=
 some 0
noncomputable def z9r (l1:(List qf)):Option (Int):=
 if decide (1000 < (l1.length:Int)) then some 2 else (if l1.length≤1000000000 then forL (fun (k:Nat) (x:qf) (s:Bs)=>y09 k x s) (fun (s:Bs)=>y5d s) 0 l1 [] else none)
noncomputable def y0i (x1:Bs):Option (Bool):=
 some (decide (x1≠x1))
noncomputable def y0j (x1:Bs) (y2:Bs):Option (Int):=
 (y0i x1).bind fun r3=>(y0i y2).bind fun r5=>if r3 then (if r5 then some 0 else (some (-1))) else (if r5 then some 1 else (if Op.bytesLess x1 y2 then (some (-1)) else (if (!(Op.bytesLess x1 y2 || x1 == y2)) then some 1 else some 0)))
noncomputable def z1j (s2:(List Bs)) (k3:Nat) (x6:Bs):Option (Unit ⊕ (Int)):=
 if decide ((s2.length:Int)≤(k3:Int)) then (some (.inr 1)) else ((s2[k3]?).bind fun (x11:Bs)=>(y0j x6 x11).bind fun r13=>if decide (r13≠0) then (some (.inr r13)) else (some (.inl ())))
noncomputable def y26 (s1:(List Bs)) (s2:(List Bs)):Option (Int):=
 if decide ((s1.length:Int) < (s2.length:Int)) then (some (-1)) else some 0
noncomputable def z89 (s1:(List Bs)) (s2:(List Bs)):Option (Int):=
 if s1.length≤1000000000 then forL (fun (k:Nat) (x:Bs) (s:Unit)=>z1j s2 k x) (fun (s:Unit)=>y26 s1 s2) 0 s1 () else none
noncomputable def z0m (x6:yr) (v26:Bool):Option (Unit ⊕ (Int)):=
 if v26 then (some (.inr 7)) else ((z5i x6.Scopes).bind fun r28=>if decide (r28≠0) then (some (.inr r28)) else ((kn x6.From 0 x6.To).bind fun r31=>if ((!r31) || (decide (345686400000 < x6.To))) then (some (.inr 1)) else (some (.inl ()))))
noncomputable def z0n (v1:(List yr)) (k3:Nat) (x6:yr) (v17:Bool):Option (Unit ⊕ (Int)):=
 if v17 then (some (.inr 3)) else (if decide (0 < (k3:Int)) then ((at? v1 ((k3:Int) - 1)).bind fun (x21:yr)=>(z89 [x21.App,x21.Sum] [x6.App,x6.Sum]).bind fun r23=>z0m x6 (decide (0≤r23))) else (z0m x6 false))
noncomputable def z6s (v1:(List yr)) (k3:Nat) (x6:yr):Option (Unit ⊕ (Int)):=
 (ko x6.App).bind fun r9=>if !r9 then (some (.inr 5)) else (if decide ((x6.Sum.length:Int)≠16) then (z0n v1 k3 x6 true) else ((xc x6.Sum [48,49,50,51,52,53,54,55,56,57,97,98,99,100,101,102]).bind fun r14=>z0n v1 k3 x6 (!r14)))
noncomputable def y88:Option (Int):=
 some 0
noncomputable def z9x (v1:(List yr)):Option (Int):=
 if decide (500 < (v1.length:Int)) then some 2 else (if v1.length≤1000000000 then forL (fun (k:Nat) (x:yr) (s:Unit)=>z6s v1 k x) (fun (s:Unit)=>y88) 0 v1 () else none)
noncomputable def y1a (k17:Nat) (x20:Int):Option (Unit ⊕ (Int)):=
 if decide (x20≠0) then (some (.inr x20)) else (some (.inl ()))
noncomputable def y5g (k1:wo):Option (Int):=
 (kn k1.Skew 0 600000).bind fun r21=>if !r21 then some 1 else some 0
noncomputable def z2u (k1:wo) (v9:Bool):Option (Int):=
 if v9 then some 5 else ((z5h k1.Signers).bind fun r11=>(z9r k1.Revoked).bind fun r13=>(z9x k1.Holders).bind fun r15=>if [r11,r13,r15].length≤1000000000 then forL (fun (k:Nat) (x:Int) (s:Unit)=>y1a k x) (fun (s:Unit)=>y5g k1) 0 [r11,r13,r15] () else none)
noncomputable def z9v (k1:wo):Option (Int):=
 (ko k1.Issuer).bind fun r2=>if !r2 then (z2u k1 true) else ((ko k1.Audience).bind fun r6=>z2u k1 (!r6))
noncomputable def z6k (v9:Bool):Option (Bool):=
 some v9
noncomputable def z5g (s1:Bs):Option (Bool):=
 (kn (s1.length:Int) 1 100).bind fun r2=>if r2 then ((xc s1 [97,98,99,100,101,102,103,104,105,106,107,108,109,110,111,112,113,114,115,116,117,118,119,120,121,122,65,66,67,68,69,70,71,72,73,74,75,76,77,78,79,80,81,82,83,84,85,86,87,88,89,90,48,49,50,51,52,53,54,55,56,57,33,35,36,37,38,39,42,43,45,46,94,95,96,124,126]).bind fun r6=>z6k r6) else (z6k false)
noncomputable def z6n (r15:(Int×Int)) (v22:Bool):Option (Int×Bool):=
 some (r15.1,v22)
noncomputable def Zl (s1:Bs) (v13:Bool):Option (Int×Bool):=
 if v13 then (some (0,false)) else ((Qd s1).bind fun r15=>if decide (r15.2=0) then ((Ww r15.1).bind fun r19=>z6n r15 (decide (r19=s1))) else (z6n r15 false))
noncomputable def Ye (s1:Bs) (most2:Int):Option (Int×Bool):=
 (z4z s1 [45]).bind fun r3=>if decide (r3=[]) then (Zl s1 true) else (if decide (most2 < (r3.length:Int)) then (Zl s1 true) else ((xc r3 [48,49,50,51,52,53,54,55,56,57]).bind fun r9=>Zl s1 (!r9)))
noncomputable def y1b (v30:Bs):Option (Bs×Int):=
 some (v30,0)
noncomputable def Qm (v45:Bool):Option (Unit ⊕ (Bs×Int)):=
 if v45 then (some (.inr ([],3))) else (some (.inl ()))
noncomputable def z6q (k21:Nat) (x24:Bs):Option (Unit ⊕ (Bs×Int)):=
 (kn (x24.length:Int) 1 63).bind fun r33=>if !r33 then (Qm true) else ((xc x24 [97,98,99,100,101,102,103,104,105,106,107,108,109,110,111,112,113,114,115,116,117,118,119,120,121,122,65,66,67,68,69,70,71,72,73,74,75,76,77,78,79,80,81,82,83,84,85,86,87,88,89,90,48,49,50,51,52,53,54,55,56,57,45]).bind fun r37=>if !r37 then (Qm true) else ((z1y x24 [45]).bind fun r41=>Qm (decide (r41≠x24))))
noncomputable def z6r (r2:(Bs×Bs×Bool)) (r4:(Int×Bool)):Option (Bs×Int):=
 (z40 r2.1).bind fun r25=>if ((r2.2.2 && (decide (r4.1≠80))) && (decide (r4.1≠443))) then (if [58].length+r2.2.1.length≤1000000000 then (if r25.length+([58]++r2.2.1).length≤1000000000 then (y1b (r25++([58]++r2.2.1))) else none) else none) else (y1b r25)
noncomputable def Qn (r2:(Bs×Bs×Bool)) (r4:(Int×Bool)) (v17:Bool):Option (Bs×Int):=
 if v17 then (some ([],3)) else ((ka r2.1 [46]).bind fun r19=>if r19.length≤1000000000 then forL (fun (k:Nat) (x:Bs) (s:Unit)=>z6q k x) (fun (s:Unit)=>z6r r2 r4) 0 r19 () else none)
noncomputable def z5m (v1:Bs):Option (Bs×Int):=
 (xq v1 [58]).bind fun r2=>(Ye r2.2.1 5).bind fun r4=>if decide (255 < (v1.length:Int)) then (Qn r2 r4 true) else (if r2.2.2 then (if !r4.2 then (Qn r2 r4 true) else ((kn r4.1 1 65535).bind fun r12=>Qn r2 r4 (!r12))) else (Qn r2 r4 false))
noncomputable def z0j (v19:Bool):Option (Bool):=
 some v19
noncomputable def z9m (s1:Bs):Option (Bool):=
 (kn (s1.length:Int) 1 1000).bind fun r2=>if r2 then ((s1[0]?).bind fun (x6:UInt8)=>if decide ((x6.toNat:Int)=47) then ((Qf s1 33).bind fun r10=>if r10 then ((z41 s1 [63,35]).bind fun r14=>z0j (!r14)) else (z0j false)) else (z0j false)) else (z0j false)
noncomputable def z2n (v12:Bool):Option (Bool):=
 some v12
noncomputable def z9l (s1:Bs):Option (Bool):=
 if decide ((s1.length:Int)≤1000) then ((Qf s1 33).bind fun r4=>if r4 then ((z42 s1 [35]).bind fun r8=>z2n (!r8)) else (z2n false)) else (z2n false)
noncomputable def z6t (v12:Bool):Option (Bool):=
 some v12
noncomputable def z9z (s1:Bs):Option (Bool):=
 if decide ((s1.length:Int)≤2000) then ((Qf s1 32).bind fun r4=>if r4 then ((z1y s1 [32]).bind fun r8=>z6t (decide (r8=s1))) else (z6t false)) else (z6t false)
noncomputable def y5h (k3:Nat) (x6:qo):Option (Unit ⊕ (Int)):=
 (z5g x6.Name).bind fun r9=>if !r9 then (some (.inr 5)) else ((z9z x6.Value).bind fun r12=>if !r12 then (some (.inr 3)) else (some (.inl ())))
noncomputable def y5i:Option (Int):=
 some 0
noncomputable def z9y (l1:(List qo)):Option (Int):=
 if decide (50 < (l1.length:Int)) then some 2 else (if l1.length≤1000000000 then forL (fun (k:Nat) (x:qo) (s:Unit)=>y5h k x) (fun (s:Unit)=>y5i) 0 l1 () else none)
noncomputable def z2r (r1:wj) (v23:Bool):Option (Int):=
 if v23 then some 3 else ((z9y r1.Headers).bind fun r25=>if decide (r25≠0) then some r25 else (if decide (20000 < (r1.Body.length:Int)) then some 2 else some 0))
noncomputable def z9s (r1:wj):Option (Int):=
 (z5l r1.At).bind fun r2=>if !r2 then some 1 else ((z5g r1.Method).bind fun r5=>if !r5 then some 5 else ((z5m r1.Host).bind fun r8=>if decide (r8.2≠0) then some r8.2 else ((z9m r1.Path).bind fun r11=>if !r11 then (z2r r1 true) else ((z9l r1.Query).bind fun r15=>if !r15 then (z2r r1 true) else ((z9z r1.From).bind fun r19=>z2r r1 (!r19))))))
noncomputable def y5x (k2:Nat) (x5:Int):Option (Unit ⊕ (Int)):=
 if decide (x5≠0) then (some (.inr x5)) else (some (.inl ()))
noncomputable def y5y:Option (Int):=
 some 0
noncomputable def y0h (l1:(List Int)):Option (Int):=
 if l1.length≤1000000000 then forL (fun (k:Nat) (x:Int) (s:Unit)=>y5x k x) (fun (s:Unit)=>y5y) 0 l1 () else none
noncomputable def z9o (a1:Bs) (b2:Bs):Option (Bool):=
 (z40 a1).bind fun r3=>(z40 b2).bind fun r5=>some (decide (r3=r5))
noncomputable def z6j (out14:(List Bs)):Option ((List Bs) ⊕ ((List Bs))):=
 some (.inl out14)
noncomputable def z2o (name2:Bs) (k4:Nat) (x7:qo) (l3:(List Bs)):Option ((List Bs) ⊕ ((List Bs))):=
 (z9o x7.Name name2).bind fun r10=>if r10 then (if l3.length+1≤1000000000 then (z6j (l3++[x7.Value])) else none) else (z6j l3)
noncomputable def y5a (l3:(List Bs)):Option ((List Bs)):=
 some l3
noncomputable def z5f (l1:(List qo)) (name2:Bs):Option ((List Bs)):=
 if l1.length≤1000000000 then forL (fun (k:Nat) (x:qo) (s:(List Bs))=>z2o name2 k x s) (fun (s:(List Bs))=>y5a s) 0 l1 [] else none
noncomputable def z5k (x1:ya) (c2:(List Bs)):Option (Bool):=
 (c2[0]?).bind fun (x3:Bs)=>some (decide (x1.Id=x3))
noncomputable def z2y (s1:Bs) (out18:(List Int)):Option (Bs×Int):=
 (z0c (strN out18)).bind fun r19=>if decide (r19≠s1) then (some ([],9)) else (some ((strN out18),0))
noncomputable def ki (s1:Bs) (bits7:Bs) (l8:(List Int)):Option ((Bs×(List Int)) ⊕ (Bs×Int)):=
 if decide (8≤(bits7.length:Int)) then ((sub? bits7 0 8).bind fun (l11:Bs)=>(Wv l11 2 64).bind fun r13=>if l8.length+1≤1000000000 then ((sub? bits7 8 (bits7.length:Int)).bind fun (l16:Bs)=>some (.inl (l16,(l8++[IntKind.wrap .u8 r13.1])))) else none) else (Option.map .inr (z2y s1 l8))
noncomputable def Qo (k3:Nat) (x6:UInt8) (bits2:Bs):Option (Bs ⊕ (Bs×Int)):=
 (Wu [65,66,67,68,69,70,71,72,73,74,75,76,77,78,79,80,81,82,83,84,85,86,87,88,89,90,97,98,99,100,101,102,103,104,105,106,107,108,109,110,111,112,113,114,115,116,117,118,119,120,121,122,48,49,50,51,52,53,54,55,56,57,45,95] (x6.toNat:Int)).bind fun r24=>if decide (r24 < 0) then (some (.inr ([],9))) else ((Wx (wr (64+r24)) 2).bind fun r27=>(sub? r27 1 (r27.length:Int)).bind fun (l29:Bs)=>if bits2.length+l29.length≤1000000000 then (some (.inl (bits2++l29))) else none)
noncomputable def z2z (s1:Bs) (bits2:Bs):Option (Bs×Int):=
 iter (fun (s:Bs×(List Int))=>ki s1 s.1 s.2) (bits2,[])
noncomputable def z90 (s1:Bs):Option (Bs×Int):=
 if s1.length≤1000000000 then forL (fun (k:Nat) (x:UInt8) (s:Bs)=>Qo k x s) (fun (s:Bs)=>z2z s1 s) 0 s1 [] else none
noncomputable def z5o (s1:Bs):Option (Bool):=
 some (((decide (s1≠[112,97,114,101,110,116])) && (decide (s1≠[102,111,114]))) && (decide (s1≠[109,97,121])))
noncomputable def Yd (s1:zm) (v2:(List Bs)):Option (Bool×zm):=
 (v2[0]?).bind fun (x3:Bs)=>if decide (x3=[102,111,114]) then ((sub? v2 1 (v2.length:Int)).bind fun (l6:(List Bs))=>some (decide (1 < (v2.length:Int)),(zm.mk s1.Id s1.Subject s1.Issuer s1.Parent l6 s1.Scopes s1.From s1.To))) else (if decide (x3=[109,97,121]) then ((sub? v2 1 (v2.length:Int)).bind fun (l9:(List Bs))=>some (decide (1 < (v2.length:Int)),(zm.mk s1.Id s1.Subject s1.Issuer s1.Parent s1.Audience l9 s1.From s1.To))) else (if decide (x3=[116,105,109,101]) then (if decide ((v2.length:Int)≠3) then (some (false,s1)) else ((v2[1]?).bind fun (x13:Bs)=>(Ye x13 15).bind fun r15=>(v2[2]?).bind fun (x17:Bs)=>(Ye x17 15).bind fun r19=>some ((r15.2 && r19.2),(zm.mk s1.Id s1.Subject s1.Issuer s1.Parent s1.Audience s1.Scopes r15.1 r19.1)))) else (if decide ((v2.length:Int)≠2) then (some (false,s1)) else (if [105,100].length≤1000000000 then (if [115,117,98,106,101,99,116].length≤1000000000 then (if [105,115,115,117,101,114].length≤1000000000 then (if [112,97,114,101,110,116].length≤1000000000 then (if x3.length≤1000000000 then ((v2[1]?).bind fun (x27:Bs)=>if z7f ((lkG ([([105,100],(0:Int)),([115,117,98,106,101,99,116],(1:Int)),([105,115,115,117,101,114],(2:Int)),([112,97,114,101,110,116],(3:Int))]:List (Bs×Int)) x3).getD (-1))=true then ((some (y64 s1 ((lkG ([([105,100],(0:Int)),([115,117,98,106,101,99,116],(1:Int)),([105,115,115,117,101,114],(2:Int)),([112,97,114,101,110,116],(3:Int))]:List (Bs×Int)) x3).getD (-1)) x27)).bind fun (c30:zm)=>some (true,c30)) else none) else none) else none) else none) else none) else none))))
noncomputable def Yk (v5:Int) (r17:(Bs×Bs×Bool)) (r23:(Int)) (v45:Bool) (c46:Bs) (c47:Bs) (c48:Bs) (c49:Bs) (c50:(List Bs)) (c51:(List Bs)) (c52:Int) (c53:Int):Option ((Bs×Int×Int×Bs×Bs×Bs×Bs×(List Bs)×(List Bs)×Int×Int) ⊕ (zm×Int×Int)):=
 if v45 then (some (.inr ((zm.mk [] [] [] [] [] [] 0 0),v5,9))) else (some (.inl (r17.2.1,wr (r23+1),wr (v5+1),c46,c47,c48,c49,c50,c51,c52,c53)))
noncomputable def y1c (c55:Bs) (c56:Bs) (c57:Bs) (c58:Bs) (c59:(List Bs)) (c60:(List Bs)) (c61:Int) (c62:Int):Option (zm×Int×Int):=
 (z2b (zm.mk c55 c56 c57 c58 c59 c60 c61 c62)).bind fun r63=>if decide (r63≠0) then (some ((zm.mk [] [] [] [] [] [] 0 0),0,r63)) else (some ((zm.mk c55 c56 c57 c58 c59 c60 c61 c62),0,0))
noncomputable def Zm (v3:Bs) (v4:Int) (v5:Int) (c6:Bs) (c7:Bs) (c8:Bs) (c9:Bs) (c10:(List Bs)) (c11:(List Bs)) (c12:Int) (c13:Int):Option ((Bs×Int×Int×Bs×Bs×Bs×Bs×(List Bs)×(List Bs)×Int×Int) ⊕ (zm×Int×Int)):=
 if decide (v3=[]) then (if decide (v4=(([[105,100],[115,117,98,106,101,99,116],[105,115,115,117,101,114],[112,97,114,101,110,116],[102,111,114],[109,97,121],[116,105,109,101]]).length:Int)) then (Option.map .inr (y1c c6 c7 c8 c9 c10 c11 c12 c13)) else (some (.inr ((zm.mk [] [] [] [] [] [] 0 0),v5,9)))) else ((xq v3 [10]).bind fun r17=>(ka r17.1 [32]).bind fun r19=>(r19[0]?).bind fun (x21:Bs)=>(z44 ([[105,100],[115,117,98,106,101,99,116],[105,115,115,117,101,114],[112,97,114,101,110,116],[102,111,114],[109,97,121],[116,105,109,101]]) x21).bind fun r23=>(sub? ([[105,100],[115,117,98,106,101,99,116],[105,115,115,117,101,114],[112,97,114,101,110,116],[102,111,114],[109,97,121],[116,105,109,101]]) v4 (max r23 v4)).bind fun (l25:(List Bs))=>(z13 l25 (fun (a0:Bs)=>z5o a0)).bind fun r27=>if !r17.2.2 then (Yk v5 r17 r23 true c6 c7 c8 c9 c10 c11 c12 c13) else (if decide (r23 < v4) then (Yk v5 r17 r23 true c6 c7 c8 c9 c10 c11 c12 c13) else (if r27 then (Yk v5 r17 r23 true c6 c7 c8 c9 c10 c11 c12 c13) else ((Wz r19 []).bind fun r35=>if r35 then (Yk v5 r17 r23 true c6 c7 c8 c9 c10 c11 c12 c13) else ((Yd (zm.mk c6 c7 c8 c9 c10 c11 c12 c13) r19).bind fun r39=>Yk v5 r17 r23 (!r39.1) r39.2.Id r39.2.Subject r39.2.Issuer r39.2.Parent r39.2.Audience r39.2.Scopes r39.2.From r39.2.To)))))
noncomputable def z91 (v1:Bs):Option (zm×Int×Int):=
 if decide (4000 < (v1.length:Int)) then (some ((zm.mk [] [] [] [] [] [] 0 0),0,2)) else (iter (fun (s:Bs×Int×Int×Bs×Bs×Bs×Bs×(List Bs)×(List Bs)×Int×Int)=>Zm s.1 s.2.1 s.2.2.1 s.2.2.2.1 s.2.2.2.2.1 s.2.2.2.2.2.1 s.2.2.2.2.2.2.1 s.2.2.2.2.2.2.2.1 s.2.2.2.2.2.2.2.2.1 s.2.2.2.2.2.2.2.2.2.1 s.2.2.2.2.2.2.2.2.2.2) (v1,0,0,[],[],[],[],([]:(List Bs)),([]:(List Bs)),0,0))
noncomputable def z6m (r37:(zm×Int×Int)) (v47:Int):Option (zm×Int):=
 if decide (v47≠0) then (some ((zm.mk [] [] [] [] [] [] 0 0),v47)) else (some (r37.1,0))
noncomputable def z2s (r37:(zm×Int×Int)) (v45:Bool):Option (zm×Int):=
 if v45 then (z6m r37 11) else (z6m r37 r37.2.2)
noncomputable def z0l (v1:(List ya)) (v3:Int) (r7:((List Bs))) (v16:Bool):Option (zm×Int):=
 if v16 then (some ((zm.mk [] [] [] [] [] [] 0 0),9)) else ((z12 v1 (fun (a0:ya)=>z5k a0 r7)).bind fun r18=>if decide (r18 < 0) then (some ((zm.mk [] [] [] [] [] [] 0 0),8)) else ((at? v1 r18).bind fun (x21:ya)=>(r7[0]?).bind fun (x23:Bs)=>if x23.length+[46].length≤1000000000 then ((r7[1]?).bind fun (x26:Bs)=>if (x23++[46]).length+x26.length≤1000000000 then ((uo x21.Secret ((x23++[46])++x26)).bind fun r29=>(r7[2]?).bind fun (x31:Bs)=>if decide (r29≠x31) then (some ((zm.mk [] [] [] [] [] [] 0 0),15)) else ((z90 x26).bind fun r34=>if decide (r34.2≠0) then (some ((zm.mk [] [] [] [] [] [] 0 0),r34.2)) else ((z91 r34.1).bind fun r37=>if decide (r37.2.2=0) then (if decide (x21.From≤v3) then (z2s r37 (!(decide (v3 < x21.Until)))) else (z2s r37 (!false))) else (z2s r37 false)))) else none) else none))
noncomputable def z9t (v1:(List ya)) (v2:Bs) (v3:Int):Option (zm×Int):=
 (z5l v3).bind fun r4=>if !r4 then (some ((zm.mk [] [] [] [] [] [] 0 0),1)) else ((ka v2 [46]).bind fun r7=>if decide ((r7.length:Int)≠3) then (z0l v1 v3 r7 true) else ((r7[0]?).bind fun (x11:Bs)=>(ko x11).bind fun r13=>z0l v1 v3 r7 (!r13)))
noncomputable def z93 (r1:qf) (c2:zm) (c3:Int):Option (Bool):=
 some (((decide (r1.Id=c2.Id)) || (decide (r1.Id=c2.Parent))) && (decide (r1.At≤c3)))
noncomputable def z0p (v1:wo) (v3:Int) (r4:(zm×Int)) (v15:Bool):Option (zm×Int):=
 if v15 then (some ((zm.mk [] [] [] [] [] [] 0 0),16)) else (if ((decide (v3 < (wr (r4.1.From - v1.Skew)))) || (decide ((wr (r4.1.To+v1.Skew))≤v3))) then (some ((zm.mk [] [] [] [] [] [] 0 0),11)) else ((z45 v1.Revoked (fun (a0:qf)=>z93 a0 r4.1 v3)).bind fun r18=>if r18 then (some ((zm.mk [] [] [] [] [] [] 0 0),13)) else (some (r4.1,0))))
noncomputable def z5p (v1:wo) (v2:Bs) (v3:Int):Option (zm×Int):=
 (z9t v1.Signers v2 v3).bind fun r4=>if decide (r4.2≠0) then (some ((zm.mk [] [] [] [] [] [] 0 0),r4.2)) else (if decide (r4.1.Issuer≠v1.Issuer) then (z0p v1 v3 r4 true) else (if decide (0 < (r4.1.Audience.length:Int)) then ((Wz r4.1.Audience v1.Audience).bind fun r11=>z0p v1 v3 r4 (!r11)) else (z0p v1 v3 r4 false)))
noncomputable def z6u (r21:(Bs)) (v23:Bool) (x30:yr) (v40:(List Bs)) (c41:Int) (c42:Bs):Option ((Bool×Int×Bs×(List Bs)) ⊕ (yl×Int)):=
 some (.inl ((v23 || (decide (x30.Sum=r21))),c41,c42,v40))
noncomputable def Qp (v2:wj) (r21:(Bs)) (k27:Nat) (x30:yr) (v23:Bool) (c24:Int) (c25:Bs) (l26:(List Bs)):Option ((Bool×Int×Bs×(List Bs)) ⊕ (yl×Int)):=
 if ((((decide (x30.Sum≠r21)) || (decide (v2.At < x30.From))) || (decide (x30.To≤v2.At))) || ((decide (c24≠0)) && (decide (c25≠x30.App)))) then (z6u r21 v23 x30 l26 c24 c25) else (if l26.length+x30.Scopes.length≤1000000000 then (z6u r21 v23 x30 (l26++x30.Scopes) 2 x30.App) else none)
noncomputable def z0o (v23:Bool) (c24:Int) (c25:Bs) (l26:(List Bs)):Option (yl×Int):=
 (z19 l26).bind fun r31=>if !v23 then (some ((yl.mk 0 [] []),8)) else (if decide (c24=0) then (some ((yl.mk 0 [] []),11)) else (if decide (50 < (r31.length:Int)) then (some ((yl.mk 0 [] []),2)) else (some ((yl.mk c24 c25 r31),0))))
noncomputable def z92 (v1:wo) (v2:wj):Option (yl×Int):=
 (z5f v2.Headers [97,117,116,104,111,114,105,122,97,116,105,111,110]).bind fun r3=>(z5f v2.Headers [120,45,97,112,105,45,107,101,121]).bind fun r5=>if ((decide (1 < (r3.length:Int))) || (decide (1 < (r5.length:Int)))) then (some ((yl.mk 0 [] []),6)) else (if decide (1 < (wr ((r3.length:Int)+(r5.length:Int)))) then (some ((yl.mk 0 [] []),13)) else (if decide ((r3.length:Int)=1) then ((r3[0]?).bind fun (x10:Bs)=>(z11 x10 [66,101,97,114,101,114,32]).bind fun r12=>if ((!r12.2) || (decide (r12.1=[]))) then (some ((yl.mk 0 [] []),9)) else ((z5p v1 r12.1 v2.At).bind fun r15=>if decide (r15.2≠0) then (some ((yl.mk 0 [] []),r15.2)) else (some ((yl.mk 1 r15.1.Subject r15.1.Scopes),0)))) else (if decide ((r5.length:Int)=0) then (some ((yl.mk 0 [] []),0)) else ((r5[0]?).bind fun (x19:Bs)=>(uo v1.Issuer x19).bind fun r21=>if v1.Holders.length≤1000000000 then forL (fun (k:Nat) (x:yr) (s:Bool×Int×Bs×(List Bs))=>Qp v2 r21 k x s.1 s.2.1 s.2.2.1 s.2.2.2) (fun (s:Bool×Int×Bs×(List Bs))=>z0o s.1 s.2.1 s.2.2.1 s.2.2.2) 0 v1.Holders (false,0,[],[]) else none))))
noncomputable def z2q (v11:Bool):Option (Bool):=
 some v11
noncomputable def z5j (a1:yl) (b2:yl):Option (Bool):=
 if decide (a1.By=b2.By) then (if decide (a1.Name=b2.Name) then ((Wy a1.Scopes b2.Scopes).bind fun r7=>z2q r7) else (z2q false)) else (z2q false)
noncomputable def y0g  : Option (Bool):=
 (Ws [97,98]).bind fun r1=>some (decide (r1=[89,87,73]))
noncomputable def z3i (v31:Bool):Option (Bool):=
 some v31
noncomputable def z3j (r6:(yl×Int)) (fault17:Int) (c18:Int) (c19:Bs) (c20:(List Bs)):Option (Bool):=
 if decide (r6.2=fault17) then ((z5j r6.1 (yl.mk c18 c19 c20)).bind fun r23=>if r23 then ((y0g ).bind fun r27=>z3i r27) else (z3i false)) else (z3i false)
noncomputable def y4f (l1:(List Int)):Option (Bool):=
 (y0d (zt.mk l1 0)).bind fun r2=>(y0c r2.2 r2.1).bind fun r4=>(z87 r2.1 r4.1).bind fun r6=>(z9v r2.1).bind fun r8=>(z9s r4.1).bind fun r10=>(y0h [r8,r10]).bind fun r12=>if decide (r12=0) then ((z92 r2.1 r4.1).bind fun r15=>z3j r6 r15.2 r15.1.By r15.1.Name r15.1.Scopes) else (z3j r6 r12 0 [] ([]:(List Bs)))
end Go.Proofs.YtndabcepiekebaaGreatDoor
