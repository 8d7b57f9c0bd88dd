/- Plain models of functions. Printed by a program. -/
import Derived.Test.YtbcmpepmafpibabGreatDoorMc
namespace Go.Proofs.YtbcmpepmafpibabGreatDoor
set_option linter.unusedVariables false
set_option maxRecDepth 20000
structure ya where
 L:(List Int)
 at_:Int
structure zk where
 Name:Bs
 Value:Bs
structure yd where
 At:Int
 Method:Bs
 Host:Bs
 Path:Bs
 Query:Bs
 From:Bs
 Headers:(List zk)
 Body:Bs
structure yj where
 Status:Int
 Headers:(List zk)
 Body:Bs
structure wq where
 first_:Bs
 headers_:(List zk)
 at_:Int
structure qp where
 first_:Bs
 headers_:(List zk)
 rest_:Bs
noncomputable def z1h (x6:Int):Option (Int):=
 some x6
noncomputable def Yy (x1:Int) (n2:Int):Option (Int):=
 if decide (n2 < 1) then some 0 else (if n2≠0 then (if decide ((Int.tmod x1 n2) < 0) then (z1h (wr ((Int.tmod x1 n2)+n2))) else (z1h (Int.tmod x1 n2))) else none)
noncomputable def kq (s1:ya) (n2:Int):Option (Int×ya):=
 if decide ((s1.L.length:Int)=0) then ((Yy (wr ((wr (s1.at_+1)) * 7919)) n2).bind fun r4=>some (r4,(ya.mk s1.L (wr (s1.at_+1))))) else (if (s1.L.length:Int)≠0 then (if ((0:Int)≤(wr ((wr (s1.at_+1)) - 1))∧(wr ((wr (s1.at_+1)) - 1))≤9223372036854775807)∧(0:Int) < (s1.L.length:Int) then ((at? s1.L (Int.tmod (wr ((wr (s1.at_+1)) - 1)) (s1.L.length:Int))).bind fun (x8:Int)=>(Yy x8 1073741824).bind fun r10=>(Yy (wr (r10+(wr (((wr ((wr (s1.at_+1)) - 1)) / (s1.L.length:Int)) * (wr (7919+(Int.tmod (wr ((wr (s1.at_+1)) - 1)) (s1.L.length:Int)))))))) n2).bind fun r12=>some (r12,(ya.mk s1.L (wr (s1.at_+1))))) else none) else none)
noncomputable def Yx (s1:ya) (l2:(List Int)):Option (Int×ya):=
 (kq s1 (l2.length:Int)).bind fun r3=>(at? l2 r3.1).bind fun (x5:Int)=>some (x5,r3.2)
noncomputable def vj (s1:ya) (l2:(List Bs)):Option (Bs×ya):=
 (kq s1 (l2.length:Int)).bind fun r3=>(at? l2 r3.1).bind fun (x5:Bs)=>some (x5,r3.2)
noncomputable def z6b (s1:ya):Option (Bs×ya):=
 (vj s1 ([[97,46,98],[97,46,98],[65,46,66],[97,46,98,58,56,48],[99,46,100,58,56,48,56,48]])).bind fun r2=>some (r2.1,r2.2)
noncomputable def z3s (s1:ya) (low2:Int) (high3:Int):Option (Int×ya):=
 if decide (high3 < low2) then (some (low2,s1)) else ((kq s1 (wr ((wr (high3 - low2))+1))).bind fun r5=>some (wr (low2+r5.1),r5.2))
noncomputable def z6y (k8:Nat) (c5:(List Int)) (c6:Int) (l7:(List zk)):Option (((List Int)×Int×(List zk)) ⊕ ((List zk)×ya)):=
 (vj (ya.mk c5 c6) ([[97,99,99,101,112,116],[65,99,99,101,112,116],[120,45,111,110,101],[88,45,84,119,111],[99,111,111,107,105,101],[118,97,114,121],[99,111,110,110,101,99,116,105,111,110],[120,45,102,111,114,119,97,114,100,101,100,45,102,111,114],[118,105,97],[120,45,102,111,114,119,97,114,100,101,100,45,104,111,115,116],[116,101]])).bind fun r12=>(vj r12.2 ([[49],[120],[97,44,32,98],[],[120,45,111,110,101,44,32,99,108,111,115,101],[103,119],[49,46,50,46,51,46,52],[53,46,54,46,55,46,56,44,32,57,46,57,46,57,46,57]])).bind fun r14=>if l7.length+1≤1000000000 then (some (.inl (r14.2.L,r14.2.at_,(l7++[(zk.mk r12.1 r14.1)])))) else none
noncomputable def z9e (c5:(List Int)) (c6:Int) (l7:(List zk)):Option ((List zk)×ya):=
 some (l7,(ya.mk c5 c6))
noncomputable def z0u (s1:ya) (most2:Int):Option ((List zk)×ya):=
 (z3s s1 0 most2).bind fun r3=>if r3.1≤1000000000 then rng (fun (k:Nat) (s:(List Int)×Int×(List zk))=>z6y k s.1 s.2.1 s.2.2) (fun (s:(List Int)×Int×(List zk))=>z9e s.1 s.2.1 s.2.2) r3.1.toNat 0 (r3.2.L,r3.2.at_,[]) else none
noncomputable def Zj (s1:ya) (n2:Int):Option (Bool×ya):=
 (kq s1 n2).bind fun r3=>some (decide (r3.1=0),r3.2)
noncomputable def z1g (r2:(Int×ya)) (r4:(Bs×ya)) (r6:(Bs×ya)) (r8:(Bs×ya)) (r10:(Bs×ya)) (r12:(Bs×ya)) (r14:((List zk)×ya)) (c23:(List Int)) (c24:Int) (c25:Bs):Option (yd×ya):=
 some ((yd.mk r2.1 r4.1 r6.1 r8.1 r10.1 r12.1 r14.1 c25),(ya.mk c23 c24))
noncomputable def z3r (s1:ya):Option (yd×ya):=
 (Yx s1 [0,5,1000,60000]).bind fun r2=>(vj r2.2 ([[71,69,84],[71,69,84],[71,69,84],[72,69,65,68],[80,79,83,84],[103,101,116]])).bind fun r4=>(z6b r4.2).bind fun r6=>(vj r6.2 ([[47],[47,97],[47,97],[47,97,47,98],[47,97,47,46,46,47,98],[47,37,52,49]])).bind fun r8=>(vj r8.2 ([[],[],[120,61,49],[98,61,50,38,97,61,49]])).bind fun r10=>(vj r10.2 ([[49,48,46,48,46,48,46,49],[49,48,46,48,46,48,46,49],[57,46,57,46,57,46,57],[]])).bind fun r12=>(z0u r12.2 4).bind fun r14=>(Zj r14.2 4).bind fun r16=>if r16.1 then ((z0d [97,98] 40).bind fun r19=>(vj r16.2 ([[104,101,108,108,111],[120],r19])).bind fun r21=>z1g r2 r4 r6 r8 r10 r12 r14 r21.2.L r21.2.at_ r21.1) else (z1g r2 r4 r6 r8 r10 r12 r14 r16.2.L r16.2.at_ [])
noncomputable def z3q (s1:ya):Option (yj×ya):=
 (Yx s1 [200,200,200,204,304,404,500,503]).bind fun r2=>(z0u r2.2 3).bind fun r4=>(vj r4.2 ([[],[104,101,108,108,111],[120]])).bind fun r6=>some ((yj.mk r2.1 r4.1 r6.1),r6.2)
noncomputable def ko (a1:Bs) (b2:Bs):Option (Bool):=
 (Yk a1).bind fun r3=>(Yk b2).bind fun r5=>some (decide (r3=r5))
noncomputable def xa (v25:Bool):Option (Bool):=
 some v25
noncomputable def z0n (name1:Bs) (request2:Bool):Option (Bool):=
 if request2 then ((ko name1 [104,111,115,116]).bind fun r5=>if r5 then (xa true) else ((ko name1 [99,111,110,116,101,110,116,45,108,101,110,103,116,104]).bind fun r9=>if r9 then (xa true) else ((ko name1 [116,114,97,110,115,102,101,114,45,101,110,99,111,100,105,110,103]).bind fun r13=>xa r13))) else ((ko name1 [99,111,110,116,101,110,116,45,108,101,110,103,116,104]).bind fun r18=>if r18 then (xa true) else ((ko name1 [116,114,97,110,115,102,101,114,45,101,110,99,111,100,105,110,103]).bind fun r22=>xa r22))
noncomputable def Qo (body2:Bs) (out15:Bs):Option (Bs):=
 if out15.length+[13,10].length≤1000000000 then (if (out15++[13,10]).length+body2.length≤1000000000 then (some ((out15++[13,10])++body2)) else none) else none
noncomputable def z08 (out27:Bs):Option (Bs ⊕ (Bs)):=
 some (.inl out27)
noncomputable def z6p (request3:Bool) (k5:Nat) (x8:zk) (out4:Bs):Option (Bs ⊕ (Bs)):=
 (z0n x8.Name request3).bind fun r20=>if !r20 then (if x8.Name.length+[58,32].length≤1000000000 then (if (x8.Name++[58,32]).length+x8.Value.length≤1000000000 then (if ((x8.Name++[58,32])++x8.Value).length+[13,10].length≤1000000000 then (if out4.length+(((x8.Name++[58,32])++x8.Value)++[13,10]).length≤1000000000 then (z08 (out4++(((x8.Name++[58,32])++x8.Value)++[13,10]))) else none) else none) else none) else none) else (z08 out4)
noncomputable def z6q (body2:Bs) (request3:Bool) (out4:Bs):Option (Bs):=
 if ((decide (body2≠[])) || (!request3)) then ((xy (body2.length:Int)).bind fun r10=>if [99,111,110,116,101,110,116,45,108,101,110,103,116,104,58,32].length+r10.length≤1000000000 then (if ([99,111,110,116,101,110,116,45,108,101,110,103,116,104,58,32]++r10).length+[13,10].length≤1000000000 then (if out4.length+(([99,111,110,116,101,110,116,45,108,101,110,103,116,104,58,32]++r10)++[13,10]).length≤1000000000 then (Qo body2 (out4++(([99,111,110,116,101,110,116,45,108,101,110,103,116,104,58,32]++r10)++[13,10]))) else none) else none) else none) else (Qo body2 out4)
noncomputable def z0l (l1:(List zk)) (body2:Bs) (request3:Bool):Option (Bs):=
 if l1.length≤1000000000 then forL (fun (k:Nat) (x:zk) (s:Bs)=>z6p request3 k x s) (fun (s:Bs)=>z6q body2 request3 s) 0 l1 [] else none
noncomputable def Qu (r1:yd) (target5:Bs):Option (Bs):=
 if r1.Method.length+[32].length≤1000000000 then (if (r1.Method++[32]).length+target5.length≤1000000000 then (if ((r1.Method++[32])++target5).length+[32,72,84,84,80,47,49,46,49].length≤1000000000 then (if (((r1.Method++[32])++target5)++[32,72,84,84,80,47,49,46,49]).length+[13,10].length≤1000000000 then (if ((((r1.Method++[32])++target5)++[32,72,84,84,80,47,49,46,49])++[13,10]).length+[104,111,115,116,58,32].length≤1000000000 then (if (((((r1.Method++[32])++target5)++[32,72,84,84,80,47,49,46,49])++[13,10])++[104,111,115,116,58,32]).length+r1.Host.length≤1000000000 then (if ((((((r1.Method++[32])++target5)++[32,72,84,84,80,47,49,46,49])++[13,10])++[104,111,115,116,58,32])++r1.Host).length+[13,10].length≤1000000000 then ((z0l r1.Headers r1.Body true).bind fun r13=>if (((((((r1.Method++[32])++target5)++[32,72,84,84,80,47,49,46,49])++[13,10])++[104,111,115,116,58,32])++r1.Host)++[13,10]).length+r13.length≤1000000000 then (some ((((((((r1.Method++[32])++target5)++[32,72,84,84,80,47,49,46,49])++[13,10])++[104,111,115,116,58,32])++r1.Host)++[13,10])++r13)) else none) else none) else none) else none) else none) else none) else none) else none
noncomputable def z0o (r1:yd):Option (Bs):=
 if decide (r1.Query≠[]) then (if [63].length+r1.Query.length≤1000000000 then (if r1.Path.length+([63]++r1.Query).length≤1000000000 then (Qu r1 (r1.Path++([63]++r1.Query))) else none) else none) else (Qu r1 r1.Path)
noncomputable def Qs (a1:yj) (reason3:Bs):Option (Bs):=
 (xy a1.Status).bind fun r4=>if [72,84,84,80,47,49,46,49,32].length+r4.length≤1000000000 then (if ([72,84,84,80,47,49,46,49,32]++r4).length+[32].length≤1000000000 then (if (([72,84,84,80,47,49,46,49,32]++r4)++[32]).length+reason3.length≤1000000000 then (if ((([72,84,84,80,47,49,46,49,32]++r4)++[32])++reason3).length+[13,10].length≤1000000000 then ((z0l a1.Headers a1.Body false).bind fun r10=>if (((([72,84,84,80,47,49,46,49,32]++r4)++[32])++reason3)++[13,10]).length+r10.length≤1000000000 then (some ((((([72,84,84,80,47,49,46,49,32]++r4)++[32])++reason3)++[13,10])++r10)) else none) else none) else none) else none) else none
noncomputable def z3m (a1:yj):Option (Bs):=
 if decide (a1.Status=200) then (Qs a1 [79,75]) else (Qs a1 [45])
noncomputable def z8o (i1:Int):Option (Bs):=
 if decide (i1 < 10) then ((sub? [48,49,50,51,52,53,54,55,56,57,97,98,99,100,101,102,103,104,105,106,107,108,109,110,111,112,113,114,115,116,117,118,119,120,121,122] i1 (wr (i1+1))).bind fun (l3:Bs)=>some l3) else ((sub? [48,48,48,49,48,50,48,51,48,52,48,53,48,54,48,55,48,56,48,57,49,48,49,49,49,50,49,51,49,52,49,53,49,54,49,55,49,56,49,57,50,48,50,49,50,50,50,51,50,52,50,53,50,54,50,55,50,56,50,57,51,48,51,49,51,50,51,51,51,52,51,53,51,54,51,55,51,56,51,57,52,48,52,49,52,50,52,51,52,52,52,53,52,54,52,55,52,56,52,57,53,48,53,49,53,50,53,51,53,52,53,53,53,54,53,55,53,56,53,57,54,48,54,49,54,50,54,51,54,52,54,53,54,54,54,55,54,56,54,57,55,48,55,49,55,50,55,51,55,52,55,53,55,54,55,55,55,56,55,57,56,48,56,49,56,50,56,51,56,52,56,53,56,54,56,55,56,56,56,57,57,48,57,49,57,50,57,51,57,52,57,53,57,54,57,55,57,56,57,57] (wr (i1 * 2)) (wr ((wr (i1 * 2))+2))).bind fun (l5:Bs)=>some l5)
noncomputable def z56 (x1:Int):Option (Bool):=
 some (decide ((and_ .i64 x1 (wr (x1 - 1)))=0))
noncomputable def Qc (v5:Bool) (v52:Int) (l53:(List Int)):Option ((List Int)×Bs):=
 if v5 then none else (if l53.length=65 then (if (0:Int)≤v52∧v52≤(65:Int) then (some ([],(strN (l53.drop v52.toNat)))) else none) else none)
noncomputable def Qd (v4:Bool) (v5:Bool) (v47:Int) (l48:(List Int)):Option ((List Int)×Bs):=
 if v4 then (if (0:Int)≤(wr (v47 - 1))∧(wr (v47 - 1)) < (65:Int) then (if (wr (v47 - 1)).toNat < l48.length then (Qc v5 (wr (v47 - 1)) (l48.set (wr (v47 - 1)).toNat 45)) else none) else none) else (Qc v5 v47 l48)
noncomputable def z02 (v4:Bool) (v5:Bool) (v23:Int) (v24:Int) (l25:(List Int)):Option ((List Int)×Bs):=
 (at? [48,49,50,51,52,53,54,55,56,57,97,98,99,100,101,102,103,104,105,106,107,108,109,110,111,112,113,114,115,116,117,118,119,120,121,122] v23).bind fun (x26:UInt8)=>if (0:Int)≤(wr (v24 - 1))∧(wr (v24 - 1)) < (65:Int) then (if (wr (v24 - 1)).toNat < l25.length then (Qd v4 v5 (wr (v24 - 1)) (l25.set (wr (v24 - 1)).toNat (x26.toNat:Int))) else none) else none
noncomputable def jn (v3:Int) (v4:Bool) (v5:Bool) (r11:(Int)) (v13:Int) (v14:Int) (l15:(List Int)):Option ((Int×Int×(List Int)) ⊕ ((List Int)×Bs)):=
 if decide ((IntKind.wrap .u64 v3)≤v13) then ((at? [48,49,50,51,52,53,54,55,56,57,97,98,99,100,101,102,103,104,105,106,107,108,109,110,111,112,113,114,115,116,117,118,119,120,121,122] (and_ .u64 v13 (IntKind.wrap .u64 ((IntKind.wrap .u64 v3) - 1)))).bind fun (x18:UInt8)=>if (0:Int)≤(wr (v14 - 1))∧(wr (v14 - 1)) < (65:Int) then (if (wr (v14 - 1)).toNat < l15.length then (if (0:Int)≤(IntKind.wrap .u64 r11) then (some (.inl ((shr_ .u64 v13 (IntKind.wrap .u64 r11)),wr (v14 - 1),(l15.set (wr (v14 - 1)).toNat (x18.toNat:Int))))) else none) else none) else none) else (Option.map .inr (z02 v4 v5 v13 v14 l15))
noncomputable def z6n (v4:Bool) (v5:Bool) (v40:Int) (v41:Int) (l42:(List Int)):Option ((List Int)×Bs):=
 (at? [48,49,50,51,52,53,54,55,56,57,97,98,99,100,101,102,103,104,105,106,107,108,109,110,111,112,113,114,115,116,117,118,119,120,121,122] v40).bind fun (x43:UInt8)=>if (0:Int)≤(wr (v41 - 1))∧(wr (v41 - 1)) < (65:Int) then (if (wr (v41 - 1)).toNat < l42.length then (Qd v4 v5 (wr (v41 - 1)) (l42.set (wr (v41 - 1)).toNat (x43.toNat:Int))) else none) else none
noncomputable def z88 (v3:Int) (v4:Bool) (v5:Bool) (v30:Int) (v31:Int) (l32:(List Int)):Option ((Int×Int×(List Int)) ⊕ ((List Int)×Bs)):=
 if decide ((IntKind.wrap .u64 v3)≤v30) then (if (IntKind.wrap .u64 v3)≠0 then ((at? [48,49,50,51,52,53,54,55,56,57,97,98,99,100,101,102,103,104,105,106,107,108,109,110,111,112,113,114,115,116,117,118,119,120,121,122] (IntKind.wrap .u64 (v30 - (IntKind.wrap .u64 ((IntKind.wrap .u64 (Int.tdiv v30 (IntKind.wrap .u64 v3))) * (IntKind.wrap .u64 v3)))))).bind fun (x36:UInt8)=>if (0:Int)≤(wr (v31 - 1))∧(wr (v31 - 1)) < (65:Int) then (if (wr (v31 - 1)).toNat < l32.length then (some (.inl ((IntKind.wrap .u64 (Int.tdiv v30 (IntKind.wrap .u64 v3))),wr (v31 - 1),(l32.set (wr (v31 - 1)).toNat (x36.toNat:Int))))) else none) else none) else none) else (Option.map .inr (z6n v4 v5 v30 v31 l32))
noncomputable def z36 (v2:Int) (v3:Int) (v4:Bool) (v5:Bool):Option ((List Int)×Bs):=
 (z56 v3).bind fun r8=>if r8 then ((z3v (IntKind.wrap .u64 v3)).bind fun r11=>iter (fun (s:Int×Int×(List Int))=>jn v3 v4 v5 r11 s.1 s.2.1 s.2.2) (v2,65,(List.replicate 65 0))) else (iter (fun (s:Int×Int×(List Int))=>z88 v3 v4 v5 s.1 s.2.1 s.2.2) (v2,65,(List.replicate 65 0)))
noncomputable def z57 (v1:(List Int)) (v2:Int) (v3:Int) (v4:Bool) (v5:Bool):Option ((List Int)×Bs):=
 if (((decide (v3 < 2)) || (decide (v3=10))) || (decide (36 < v3))) then none else (if v4 then none else (z36 v2 v3 v4 v5))
noncomputable def z58 (i1:Int) (base2:Int):Option (Bs):=
 if decide (base2=10) then (if ((decide (0≤i1)) && (decide (i1 < 100))) then ((z8o i1).bind fun r5=>some r5) else none) else ((z57 ([]:(List Int)) (IntKind.wrap .u64 i1) base2 (decide (i1 < 0)) false).bind fun r7=>some r7.2)
noncomputable def z0g (i1:Int) (base2:Int):Option (Bs):=
 (z58 i1 base2).bind fun r3=>some r3
noncomputable def z4d (out17:Bs):Option (Bs):=
 if out17.length+[48].length≤1000000000 then (if (out17++[48]).length+[13,10].length≤1000000000 then (if ((out17++[48])++[13,10]).length+[13,10].length≤1000000000 then (some (((out17++[48])++[13,10])++[13,10])) else none) else none) else none
noncomputable def um (size2:Int) (body3:Bs) (out4:Bs):Option ((Bs×Bs) ⊕ (Bs)):=
 if decide (body3≠[]) then ((z0g (min size2 (body3.length:Int)) 16).bind fun r7=>if r7.length+[13,10].length≤1000000000 then ((sub? body3 0 (min size2 (body3.length:Int))).bind fun (l10:Bs)=>if (r7++[13,10]).length+l10.length≤1000000000 then (if ((r7++[13,10])++l10).length+[13,10].length≤1000000000 then (if out4.length+(((r7++[13,10])++l10)++[13,10]).length≤1000000000 then ((sub? body3 (min size2 (body3.length:Int)) (body3.length:Int)).bind fun (l15:Bs)=>some (.inl (l15,(out4++(((r7++[13,10])++l10)++[13,10]))))) else none) else none) else none) else none) else (Option.map .inr (z4d out4))
noncomputable def z0s (body1:Bs) (size2:Int):Option (Bs):=
 iter (fun (s:Bs×Bs)=>um size2 s.1 s.2) (body1,[])
noncomputable def z3t (s1:ya) (t2:Bs) (v3:Bs):Option (Bs×ya):=
 if ((decide (t2=[])) || (decide (v3=[]))) then (some (v3,s1)) else ((kq s1 (t2.length:Int)).bind fun r5=>(kq r5.2 (v3.length:Int)).bind fun r7=>(at? v3 r7.1).bind fun (x9:UInt8)=>(kq r7.2 3).bind fun r11=>if decide (r11.1=0) then ((sub? t2 0 r5.1).bind fun (l14:Bs)=>if l14.length+(encL (IntKind.wrap .i32 (x9.toNat:Int))).length≤1000000000 then ((sub? t2 (wr (r5.1+1)) (t2.length:Int)).bind fun (l17:Bs)=>if (l14++(encL (IntKind.wrap .i32 (x9.toNat:Int)))).length+l17.length≤1000000000 then (some (((l14++(encL (IntKind.wrap .i32 (x9.toNat:Int))))++l17),r11.2)) else none) else none) else (if decide (r11.1=1) then ((sub? t2 0 r5.1).bind fun (l21:Bs)=>if l21.length+(encL (IntKind.wrap .i32 (x9.toNat:Int))).length≤1000000000 then ((sub? t2 r5.1 (t2.length:Int)).bind fun (l24:Bs)=>if (l21++(encL (IntKind.wrap .i32 (x9.toNat:Int)))).length+l24.length≤1000000000 then (some (((l21++(encL (IntKind.wrap .i32 (x9.toNat:Int))))++l24),r11.2)) else none) else none) else ((sub? t2 0 r5.1).bind fun (l27:Bs)=>(sub? t2 (wr (r5.1+1)) (t2.length:Int)).bind fun (l29:Bs)=>if l27.length+l29.length≤1000000000 then (some ((l27++l29),r11.2)) else none)))
noncomputable def z6w (k55:Nat) (v52:Bs) (c53:(List Int)) (c54:Int):Option ((Bs×(List Int)×Int) ⊕ (Bs×ya)):=
 (z3t (ya.mk c53 c54) v52 [13,10,32,58,49,104]).bind fun r62=>some (.inl (r62.1,r62.2.L,r62.2.at_))
noncomputable def z6x (v52:Bs) (c53:(List Int)) (c54:Int):Option (Bs×ya):=
 (vj (ya.mk c53 c54) ([[],[],[109,111,114,101]])).bind fun r58=>if v52.length+r58.1.length≤1000000000 then (some ((v52++r58.1),r58.2)) else none
noncomputable def Qv (v47:Bs) (c48:(List Int)) (c49:Int):Option (Bs×ya):=
 (Yx (ya.mk c48 c49) [0,0,1,2]).bind fun r50=>if r50.1≤1000000000 then rng (fun (k:Nat) (s:Bs×(List Int)×Int)=>z6w k s.1 s.2.1 s.2.2) (fun (s:Bs×(List Int)×Int)=>z6x s.1 s.2.1 s.2.2) r50.1.toNat 0 (v47,r50.2.L,r50.2.at_) else none
noncomputable def Qx (v35:Bs) (c36:(List Int)) (c37:Int):Option (Bs×ya):=
 (Zj (ya.mk c36 c37) 6).bind fun r38=>if r38.1 then ((vj r38.2 ([[72,84,84,80,47,49,46,49],[13,10],[58,32],[104,111,115,116,58,32],[32,47]])).bind fun r41=>(vj r41.2 ([[72,84,84,80,47,49,46,48],[10],[58],[32,58],[],[32,32,47]])).bind fun r43=>(z2l v35 r41.1 r43.1 1).bind fun r45=>Qv r45 r43.2.L r43.2.at_) else (Qv v35 r38.2.L r38.2.at_)
noncomputable def Qw (r15:(Bool×ya)) (r18:(Bs×Bs×Bool)) (v25:Bs):Option (Bs×ya):=
 if v25.length+[13,10].length≤1000000000 then ((z0s r18.2.1 3).bind fun r27=>if [116,114,97,110,115,102,101,114,45,101,110,99,111,100,105,110,103,58,32,99,104,117,110,107,101,100,13,10,13,10].length+r27.length≤1000000000 then (if [116,114,97,110,115,102,101,114,45,101,110,99,111,100,105,110,103,58,32,103,122,105,112,13,10,13,10].length+r18.2.1.length≤1000000000 then (if [99,111,110,116,101,110,116,45,108,101,110,103,116,104,58,32,51,13,10,13,10].length+r18.2.1.length≤1000000000 then ((vj r15.2 ([([116,114,97,110,115,102,101,114,45,101,110,99,111,100,105,110,103,58,32,99,104,117,110,107,101,100,13,10,13,10]++r27),[84,114,97,110,115,102,101,114,45,69,110,99,111,100,105,110,103,58,99,104,117,110,107,101,100,13,10,13,10,48,13,10,13,10,109,111,114,101],([116,114,97,110,115,102,101,114,45,101,110,99,111,100,105,110,103,58,32,103,122,105,112,13,10,13,10]++r18.2.1),([99,111,110,116,101,110,116,45,108,101,110,103,116,104,58,32,51,13,10,13,10]++r18.2.1),[99,111,110,116,101,110,116,45,108,101,110,103,116,104,58,32,48,51,13,10,13,10,97,98,99],[99,111,110,116,101,110,116,45,108,101,110,103,116,104,58,32,57,57,57,57,57,57,57,57,57,57,57,57,57,57,57,57,57,57,57,57,13,10,13,10],[99,111,110,116,101,110,116,45,108,101,110,103,116,104,58,32,51,13,10,99,111,110,116,101,110,116,45,108,101,110,103,116,104,58,32,51,13,10,13,10,97,98,99],[99,111,110,116,101,110,116,45,108,101,110,103,116,104,58,32,48,13,10,116,114,97,110,115,102,101,114,45,101,110,99,111,100,105,110,103,58,32,99,104,117,110,107,101,100,13,10,13,10,48,13,10,13,10],[99,111,110,116,101,110,116,45,108,101,110,103,116,104,58,32,45,49,13,10,13,10],[72,79,83,84,58,32,122,13,10,13,10],[99,111,110,116,101,110,116,45,108,101,110,103,116,104,58,32,50,48,48,48,49,13,10,13,10]])).bind fun r32=>if (v25++[13,10]).length+r32.1.length≤1000000000 then (Qx ((v25++[13,10])++r32.1) r32.2.L r32.2.at_) else none) else none) else none) else none) else none
noncomputable def Qy (v12:Bs) (c13:(List Int)) (c14:Int):Option (Bs×ya):=
 (Zj (ya.mk c13 c14) 3).bind fun r15=>if r15.1 then ((wo v12 [13,10,13,10]).bind fun r18=>(z2n r18.1 [13,10,99,111,110,116,101,110,116,45,108,101,110,103,116,104]).bind fun r20=>if decide (0≤r20) then ((sub? r18.1 0 r20).bind fun (l23:Bs)=>Qw r15 r18 l23) else (Qw r15 r18 r18.1)) else (Qx v12 r15.2.L r15.2.at_)
noncomputable def z0t (s1:ya) (v2:Bool):Option (Bs×ya):=
 (z3r s1).bind fun r3=>(z3q r3.2).bind fun r5=>if v2 then ((z0o r3.1).bind fun r8=>Qy r8 r5.2.L r5.2.at_) else ((z3m r5.1).bind fun r10=>Qy r10 r5.2.L r5.2.at_)
noncomputable def z16 (s14:Bs):Option (Bs):=
 some s14
noncomputable def Zx (s3:Bs) (v10:Bool):Option (Bs ⊕ (Bs)):=
 if v10 then ((sub? s3 0 (wr ((s3.length:Int) - 1))).bind fun (l12:Bs)=>some (.inl l12)) else (Option.map .inr (z16 s3))
noncomputable def z15 (c2:Int) (s3:Bs):Option (Bs ⊕ (Bs)):=
 if decide (0 < (s3.length:Int)) then ((at? s3 (wr ((s3.length:Int) - 1))).bind fun (x7:UInt8)=>Zx s3 (decide ((x7.toNat:Int)=c2))) else (Zx s3 false)
noncomputable def xw (s1:Bs) (c2:Int):Option (Bs):=
 iter (fun (s:Bs)=>z15 c2 s) s1
noncomputable def z18 (s14:Bs):Option (Bs):=
 some s14
noncomputable def Zy (s3:Bs) (v10:Bool):Option (Bs ⊕ (Bs)):=
 if v10 then ((sub? s3 1 (s3.length:Int)).bind fun (l12:Bs)=>some (.inl l12)) else (Option.map .inr (z18 s3))
noncomputable def z17 (c2:Int) (s3:Bs):Option (Bs ⊕ (Bs)):=
 if decide (0 < (s3.length:Int)) then ((s3[0]?).bind fun (x7:UInt8)=>Zy s3 (decide ((x7.toNat:Int)=c2))) else (Zy s3 false)
noncomputable def Yj (s1:Bs) (c2:Int):Option (Bs):=
 iter (fun (s:Bs)=>z17 c2 s) s1
noncomputable def Wn (s1:Bs) (cutset2:Bs) (v9:Bool):Option (Bs):=
 if v9 then ((cutset2[0]?).bind fun (x11:UInt8)=>(xw s1 (x11.toNat:Int)).bind fun r13=>(Yj r13 (x11.toNat:Int)).bind fun r15=>some r15) else none
noncomputable def uw (s1:Bs) (cutset2:Bs):Option (Bs):=
 if ((decide (s1=[])) || (decide (cutset2=[]))) then some s1 else (if decide ((cutset2.length:Int)=1) then ((cutset2[0]?).bind fun (x6:UInt8)=>Wn s1 cutset2 (decide ((x6.toNat:Int) < 128))) else (Wn s1 cutset2 false))
noncomputable def z2v (c1:Int):Option (Bool):=
 some (((decide (97≤c1)) && (decide (c1≤122))) || ((decide (65≤c1)) && (decide (c1≤90))))
noncomputable def z0j (c1:Int):Option (Bool):=
 some ((decide (48≤c1)) && (decide (c1≤57)))
noncomputable def Wu (v14:Bool):Option (Bool):=
 some v14
noncomputable def z2u (c1:Int):Option (Bool):=
 (z2v c1).bind fun r2=>if r2 then (Wu true) else ((z0j c1).bind fun r6=>if r6 then (Wu true) else ((z2m [33,35,36,37,38,39,42,43,45,46,94,95,96,124,126] c1).bind fun r10=>Wu (decide (0≤r10))))
noncomputable def z5q (k2:Nat) (x5:UInt8):Option (Unit ⊕ (Bool)):=
 (z2u (x5.toNat:Int)).bind fun r8=>if !r8 then (some (.inr false)) else (some (.inl ()))
noncomputable def z8e (s1:Bs):Option (Bool):=
 some ((decide (s1≠[])) && (decide ((s1.length:Int)≤100)))
noncomputable def Yp (s1:Bs):Option (Bool):=
 if s1.length≤1000000000 then forL (fun (k:Nat) (x:UInt8) (s:Unit)=>z5q k x) (fun (s:Unit)=>z8e s1) 0 s1 () else none
noncomputable def Wv (v13:Bool):Option (Unit ⊕ (Bool)):=
 if v13 then (some (.inr false)) else (some (.inl ()))
noncomputable def z5k (low2:Int) (high3:Int) (k4:Nat) (x7:UInt8):Option (Unit ⊕ (Bool)):=
 if decide ((x7.toNat:Int) < low2) then (Wv true) else (Wv (decide (high3 < (x7.toNat:Int))))
noncomputable def z5l:Option (Bool):=
 some true
noncomputable def ux (s1:Bs) (low2:Int) (high3:Int):Option (Bool):=
 if s1.length≤1000000000 then forL (fun (k:Nat) (x:UInt8) (s:Unit)=>z5k low2 high3 k x) (fun (s:Unit)=>z5l) 0 s1 () else none
noncomputable def Yi (v12:Bool):Option (Bool):=
 some v12
noncomputable def Zc (s1:Bs):Option (Bool):=
 if decide ((s1.length:Int)≤2000) then ((ux s1 32 126).bind fun r4=>if r4 then ((uw s1 [32]).bind fun r8=>Yi (decide (r8=s1))) else (Yi false)) else (Yi false)
noncomputable def Ws (v2:Int) (l31:(List zk)) (c32:Bs) (c33:Int):Option ((Int×(List zk)×Bs×Int) ⊕ (wq×Bool)):=
 some (.inl (wr (v2+1),l31,c32,c33))
noncomputable def Yf (v2:Int) (l3:(List zk)) (c4:Bs) (c5:Int) (r9:(Bs×Bs×Bool)) (r14:(Bs×Bs×Bool)) (r16:(Bs)) (v28:Bool):Option ((Int×(List zk)×Bs×Int) ⊕ (wq×Bool)):=
 if v28 then (some (.inr ((wq.mk c4 l3 (wr (c5+(wr ((r9.1.length:Int)+2))))),false))) else (if l3.length+1≤1000000000 then (Ws v2 (l3++[(zk.mk r14.1 r16)]) c4 (wr (c5+(wr ((r9.1.length:Int)+2))))) else none)
noncomputable def jj (v1:Bs) (v2:Int) (l3:(List zk)) (c4:Bs) (c5:Int):Option ((Int×(List zk)×Bs×Int) ⊕ (wq×Bool)):=
 (sub? v1 c5 (v1.length:Int)).bind fun (l7:Bs)=>(wo l7 [13,10]).bind fun r9=>if !r9.2.2 then (some (.inr ((wq.mk c4 l3 c5),false))) else (if decide (v2=0) then (Ws v2 l3 r9.1 (wr (c5+(wr ((r9.1.length:Int)+2))))) else (if decide (r9.1=[]) then (some (.inr ((wq.mk c4 l3 (wr (c5+(wr ((r9.1.length:Int)+2))))),true))) else ((wo r9.1 [58]).bind fun r14=>(uw r14.2.1 [32]).bind fun r16=>if !r14.2.2 then (Yf v2 l3 c4 c5 r9 r14 r16 true) else ((Yp r14.1).bind fun r20=>if !r20 then (Yf v2 l3 c4 c5 r9 r14 r16 true) else ((Zc r16).bind fun r24=>Yf v2 l3 c4 c5 r9 r14 r16 (!r24))))))
noncomputable def Za (v1:Bs):Option (wq×Bool):=
 iter (fun (s:Int×(List zk)×Bs×Int)=>jj v1 s.1 s.2.1 s.2.2.1 s.2.2.2) (0,([]:List zk),[],0)
noncomputable def z7v (v2:Bs) (k3:Nat) (x6:Bs):Option (Unit ⊕ (Int)):=
 if decide (v2=x6) then (some (.inr (k3:Int))) else (some (.inl ()))
noncomputable def z7w:Option (Int):=
 some (-1)
noncomputable def z5y (s1:(List Bs)) (v2:Bs):Option (Int):=
 if s1.length≤1000000000 then forL (fun (k:Nat) (x:Bs) (s:Unit)=>z7v v2 k x) (fun (s:Unit)=>z7w) 0 s1 () else none
noncomputable def Yl (s1:(List Bs)) (v2:Bs):Option (Bool):=
 (z5y s1 v2).bind fun r3=>some (decide (0≤r3))
noncomputable def z3c (s1:Bs):Option ((List Bs)×Bool):=
 (vw s1 [32]).bind fun r2=>(Yl r2 []).bind fun r4=>some (r2,!r4)
noncomputable def Zb (h1:zk) (name2:Bs):Option (Bool):=
 (z5v h1.Name name2).bind fun r3=>some r3
noncomputable def Wz (out14:(List Bs)):Option ((List Bs) ⊕ ((List Bs))):=
 some (.inl out14)
noncomputable def Yh (name2:Bs) (k4:Nat) (x7:zk) (l3:(List Bs)):Option ((List Bs) ⊕ ((List Bs))):=
 (Zb x7 name2).bind fun r10=>if r10 then (if l3.length+1≤1000000000 then (Wz (l3++[x7.Value])) else none) else (Wz l3)
noncomputable def z5n (l3:(List Bs)):Option ((List Bs)):=
 some l3
noncomputable def jk (l1:(List zk)) (name2:Bs):Option ((List Bs)):=
 if l1.length≤1000000000 then forL (fun (k:Nat) (x:zk) (s:(List Bs))=>Yh name2 k x s) (fun (s:(List Bs))=>z5n s) 0 l1 [] else none
noncomputable def xo (v15:Bool):Option (Bool):=
 some v15
noncomputable def z2w (s1:Bs):Option (Bool):=
 if decide (s1≠[]) then ((uc s1 [48,49,50,51,52,53,54,55,56,57]).bind fun r4=>if decide (r4=[]) then ((s1[0]?).bind fun (x8:UInt8)=>if decide ((x8.toNat:Int)≠48) then (xo true) else (xo (decide (s1=[48])))) else (xo false)) else (xo false)
noncomputable def ub (v29:Bool):Option (Int):=
 if v29 then some 3 else some 0
noncomputable def z2y (l1:(List zk)) (hosts2:Int):Option (Int):=
 (jk l1 [99,111,110,116,101,110,116,45,108,101,110,103,116,104]).bind fun r3=>(jk l1 [116,114,97,110,115,102,101,114,45,101,110,99,111,100,105,110,103]).bind fun r5=>if (((decide (1 < hosts2)) || (decide (1 < (r3.length:Int)))) || (decide (1 < (r5.length:Int)))) then some 6 else (if ((decide ((r3.length:Int)=1)) && (decide ((r5.length:Int)=1))) then some 13 else (if decide ((r3.length:Int)=1) then ((r3[0]?).bind fun (x11:Bs)=>(z2w x11).bind fun r13=>if !r13 then (ub true) else (if decide ((r5.length:Int)=1) then ((r5[0]?).bind fun (x19:Bs)=>ub (decide (x19≠[99,104,117,110,107,101,100]))) else (ub false))) else (if decide ((r5.length:Int)=1) then ((r5[0]?).bind fun (x26:Bs)=>ub (decide (x26≠[99,104,117,110,107,101,100]))) else (ub false))))
noncomputable def vm (c1:Int):Option (Int):=
 some (or_ .u8 c1 32)
noncomputable def z00 (v47:Int) (v85:Int):Option ((Int×Int) ⊕ (Bool)):=
 some (.inl (v85,wr (v47+1)))
noncomputable def ue (v14:Bs) (v46:Int) (v47:Int) (v78:Bool):Option ((Int×Int) ⊕ (Bool)):=
 if v78 then (z00 v47 48) else ((at? v14 v47).bind fun (x80:UInt8)=>if decide ((x80.toNat:Int)=95) then (if decide (v46≠48) then (some (.inr false)) else (z00 v47 95)) else (if decide (v46=95) then (some (.inr false)) else (z00 v47 33)))
noncomputable def z6m (v86:Int):Option (Bool):=
 some (decide (v86≠95))
noncomputable def z87 (v14:Bs) (v45:Bool) (v46:Int) (v47:Int):Option ((Int×Int) ⊕ (Bool)):=
 if decide (v47 < (v14.length:Int)) then ((at? v14 v47).bind fun (x50:UInt8)=>if decide (48≤(x50.toNat:Int)) then (if decide ((x50.toNat:Int)≤57) then (ue v14 v46 v47 true) else (if v45 then ((vm (x50.toNat:Int)).bind fun r58=>if decide (97≤r58) then ((vm (x50.toNat:Int)).bind fun r62=>ue v14 v46 v47 (decide (r62≤102))) else (ue v14 v46 v47 false)) else (ue v14 v46 v47 false))) else (if v45 then ((vm (x50.toNat:Int)).bind fun r70=>if decide (97≤r70) then ((vm (x50.toNat:Int)).bind fun r74=>ue v14 v46 v47 (decide (r74≤102))) else (ue v14 v46 v47 false)) else (ue v14 v46 v47 false))) else (Option.map .inr (z6m v46))
noncomputable def z34 (v14:Bs) (v43:Int) (v44:Int) (v45:Bool):Option (Bool):=
 iter (fun (s:Int×Int)=>z87 v14 v45 s.1 s.2) (v43,v44)
noncomputable def Zl (v14:Bs) (v37:Bool):Option (Bool):=
 if v37 then ((v14[1]?).bind fun (x39:UInt8)=>(vm (x39.toNat:Int)).bind fun r41=>z34 v14 48 2 (decide (r41=120))) else (z34 v14 94 0 false)
noncomputable def z35 (v14:Bs):Option (Bool):=
 if decide (2≤(v14.length:Int)) then ((v14[0]?).bind fun (x17:UInt8)=>if decide ((x17.toNat:Int)=48) then ((v14[1]?).bind fun (x21:UInt8)=>(vm (x21.toNat:Int)).bind fun r23=>if decide (r23=98) then (Zl v14 true) else ((vm (x21.toNat:Int)).bind fun r27=>if decide (r27=111) then (Zl v14 true) else ((vm (x21.toNat:Int)).bind fun r31=>Zl v14 (decide (r31=120))))) else (Zl v14 false)) else (Zl v14 false)
noncomputable def z01 (v1:Bs) (v10:Bool):Option (Bool):=
 if v10 then ((sub? v1 1 (v1.length:Int)).bind fun (l12:Bs)=>z35 l12) else (z35 v1)
noncomputable def z8n (v1:Bs):Option (Bool):=
 if decide (1≤(v1.length:Int)) then ((v1[0]?).bind fun (x4:UInt8)=>if decide ((x4.toNat:Int)=45) then (z01 v1 true) else (z01 v1 (decide ((x4.toNat:Int)=43)))) else (z01 v1 false)
noncomputable def Qe (v87:Bool) (v88:Int):Option ((Bool×Int) ⊕ (Int×Int)):=
 some (.inl (v87,v88))
noncomputable def uf (v46:Int) (v49:Int) (v53:Int) (v55:Bool) (v56:Int) (v83:Int):Option ((Bool×Int) ⊕ (Int×Int)):=
 if decide ((IntKind.wrap .u8 v46)≤v83) then (some (.inr (0,2))) else (if decide (v53≤v56) then (some (.inr (IntKind.wrap .u64 ((shl_ .u64 1 (IntKind.wrap .u64 v49)) - 1),1))) else (if ((decide ((IntKind.wrap .u64 ((IntKind.wrap .u64 (v56 * (IntKind.wrap .u64 v46)))+(IntKind.wrap .u64 v83))) < (IntKind.wrap .u64 (v56 * (IntKind.wrap .u64 v46))))) || (decide ((IntKind.wrap .u64 ((shl_ .u64 1 (IntKind.wrap .u64 v49)) - 1)) < (IntKind.wrap .u64 ((IntKind.wrap .u64 (v56 * (IntKind.wrap .u64 v46)))+(IntKind.wrap .u64 v83)))))) then (some (.inr (IntKind.wrap .u64 ((shl_ .u64 1 (IntKind.wrap .u64 v49)) - 1),1))) else (Qe v55 (IntKind.wrap .u64 ((IntKind.wrap .u64 (v56 * (IntKind.wrap .u64 v46)))+(IntKind.wrap .u64 v83))))))
noncomputable def Qg (v46:Int) (v49:Int) (v53:Int) (v55:Bool) (v56:Int) (x60:Int) (v79:Bool):Option ((Bool×Int) ⊕ (Int×Int)):=
 if v79 then ((vm x60).bind fun r81=>uf v46 v49 v53 v55 v56 (IntKind.wrap .u8 ((IntKind.wrap .u8 (r81 - 97))+10))) else (some (.inr (0,2)))
noncomputable def kr (v2:Int) (v46:Int) (v49:Int) (v53:Int) (k57:Nat) (x60:Int) (v55:Bool) (v56:Int):Option ((Bool×Int) ⊕ (Int×Int)):=
 if ((decide (x60=95)) && (decide (v2=0))) then (Qe true v56) else (if ((decide (48≤x60)) && (decide (x60≤57))) then (uf v46 v49 v53 v55 v56 (IntKind.wrap .u8 (x60 - 48))) else ((vm x60).bind fun r72=>if decide (97≤r72) then ((vm x60).bind fun r76=>Qg v46 v49 v53 v55 v56 x60 (decide (r76≤122))) else (Qg v46 v49 v53 v55 v56 x60 false)))
noncomputable def z03 (v56:Int) (v66:Bool):Option (Int×Int):=
 if v66 then (some (0,2)) else (some (v56,0))
noncomputable def z05 (v1:Bs) (v55:Bool) (v56:Int):Option (Int×Int):=
 if v55 then ((z8n v1).bind fun r63=>z03 v56 (!r63)) else (z03 v56 false)
noncomputable def Qf (v1:Bs) (v2:Int) (v45:Bs) (v46:Int) (v49:Int) (v53:Int):Option (Int×Int):=
 if (0:Int)≤(IntKind.wrap .u64 v49) then (if (yu v45).length≤1000000000 then forL (fun (k:Nat) (x:Int) (s:Bool×Int)=>kr v2 v46 v49 v53 k x s.1 s.2) (fun (s:Bool×Int)=>z05 v1 s.1 s.2) 0 (yu v45) (false,0) else none) else none
noncomputable def z04 (v1:Bs) (v2:Int) (v45:Bs) (v46:Int) (v49:Int):Option (Int×Int):=
 if decide (v46=10) then (Qf v1 v2 v45 v46 v49 1844674407370955162) else (if decide (v46=16) then (Qf v1 v2 v45 v46 v49 1152921504606846976) else (if (IntKind.wrap .u64 v46)≠0 then (Qf v1 v2 v45 v46 v49 (IntKind.wrap .u64 ((IntKind.wrap .u64 (Int.tdiv 18446744073709551615 (IntKind.wrap .u64 v46)))+1))) else none))
noncomputable def ug (v1:Bs) (v2:Int) (v3:Int) (v45:Bs) (v46:Int):Option (Int×Int):=
 if decide (v3=0) then (z04 v1 v2 v45 v46 64) else (if ((decide (v3 < 0)) || (decide (64 < v3))) then (some (0,4)) else (z04 v1 v2 v45 v46 v3))
noncomputable def z38 (v1:Bs) (v2:Int) (v3:Int) (v39:Bool):Option (Int×Int):=
 if v39 then ((sub? v1 2 (v1.length:Int)).bind fun (l41:Bs)=>ug v1 v2 v3 l41 16) else ((sub? v1 1 (v1.length:Int)).bind fun (l43:Bs)=>ug v1 v2 v3 l43 8)
noncomputable def z39 (v1:Bs) (v2:Int) (v3:Int) (v28:Bool):Option (Int×Int):=
 if v28 then ((sub? v1 2 (v1.length:Int)).bind fun (l30:Bs)=>ug v1 v2 v3 l30 8) else (if decide (3≤(v1.length:Int)) then ((v1[1]?).bind fun (x34:UInt8)=>(vm (x34.toNat:Int)).bind fun r36=>z38 v1 v2 v3 (decide (r36=120))) else (z38 v1 v2 v3 false))
noncomputable def z4a (v1:Bs) (v2:Int) (v3:Int) (v17:Bool):Option (Int×Int):=
 if v17 then ((sub? v1 2 (v1.length:Int)).bind fun (l19:Bs)=>ug v1 v2 v3 l19 2) else (if decide (3≤(v1.length:Int)) then ((v1[1]?).bind fun (x23:UInt8)=>(vm (x23.toNat:Int)).bind fun r25=>z39 v1 v2 v3 (decide (r25=111))) else (z39 v1 v2 v3 false))
noncomputable def Zd (v1:Bs) (v2:Int) (v3:Int):Option (Int×Int):=
 if decide (v1=[]) then (some (0,2)) else (if ((decide (2≤v2)) && (decide (v2≤36))) then (ug v1 v2 v3 v1 v2) else (if decide (v2=0) then ((v1[0]?).bind fun (x7:UInt8)=>if decide ((x7.toNat:Int)=48) then (if decide (3≤(v1.length:Int)) then ((v1[1]?).bind fun (x12:UInt8)=>(vm (x12.toNat:Int)).bind fun r14=>z4a v1 v2 v3 (decide (r14=98))) else (z4a v1 v2 v3 false)) else (ug v1 v2 v3 v1 10)) else (some (0,3))))
noncomputable def Qh (v29:Int):Option (Int×Int):=
 some (v29,0)
noncomputable def Zm (v14:Bool) (r15:(Int×Int)) (v24:Int):Option (Int×Int):=
 if (0:Int)≤(IntKind.wrap .u64 (wr (v24 - 1))) then (if ((!v14) && (decide ((shl_ .u64 1 (IntKind.wrap .u64 (wr (v24 - 1))))≤r15.1))) then (some (IntKind.wrap .i64 (IntKind.wrap .u64 ((shl_ .u64 1 (IntKind.wrap .u64 (wr (v24 - 1)))) - 1)),1)) else (if (v14 && (decide ((shl_ .u64 1 (IntKind.wrap .u64 (wr (v24 - 1)))) < r15.1))) then (some ((wr (-(IntKind.wrap .i64 (shl_ .u64 1 (IntKind.wrap .u64 (wr (v24 - 1))))))),1)) else (if v14 then (Qh (wr (-(IntKind.wrap .i64 r15.1)))) else (Qh (IntKind.wrap .i64 r15.1))))) else none
noncomputable def Zn (v3:Int) (v14:Bool) (r15:(Int×Int)) (v21:Bool):Option (Int×Int):=
 if v21 then (some (0,r15.2)) else (if decide (v3=0) then (Zm v14 r15 64) else (Zm v14 r15 v3))
noncomputable def uh (v2:Int) (v3:Int) (v13:Bs) (v14:Bool):Option (Int×Int):=
 (Zd v13 v2 v3).bind fun r15=>if decide (r15.2≠0) then (if (0:Int)≤r15.2∧r15.2≤(4:Int) then (Zn v3 v14 r15 (decide (r15.2≠1))) else none) else (Zn v3 v14 r15 false)
noncomputable def Ze (v1:Bs) (v2:Int) (v3:Int):Option (Int×Int):=
 if decide (v1=[]) then (some (0,2)) else ((v1[0]?).bind fun (x5:UInt8)=>if decide ((x5.toNat:Int)=43) then ((sub? v1 1 (v1.length:Int)).bind fun (l8:Bs)=>uh v2 v3 l8 false) else (if decide ((x5.toNat:Int)=45) then ((sub? v1 1 (v1.length:Int)).bind fun (l11:Bs)=>uh v2 v3 l11 true) else (uh v2 v3 v1 false)))
noncomputable def xx (s1:Bs) (base2:Int) (bitSize3:Int):Option (Int×Int):=
 (Ze s1 base2 bitSize3).bind fun r4=>if decide (r4.2≠0) then ((z2p [80,97,114,115,101,73,110,116] s1 base2 bitSize3 r4.2).bind fun r7=>some (r4.1,r7)) else (some (r4.1,0))
noncomputable def km (s1:Bs) (v18:Bool):Option (Int×Bool):=
 if v18 then (some (0,false)) else ((xx s1 16 64).bind fun r20=>some (r20.1,decide (r20.2=0)))
noncomputable def z2z (s1:Bs):Option (Int×Bool):=
 if decide (s1=[]) then (km s1 true) else (if decide (8 < (s1.length:Int)) then (km s1 true) else ((uc s1 [48,49,50,51,52,53,54,55,56,57,97,98,99,100,101,102]).bind fun r6=>if decide (r6≠[]) then (km s1 true) else ((s1[0]?).bind fun (x10:UInt8)=>if decide ((x10.toNat:Int)=48) then (km s1 (decide (s1≠[48]))) else (km s1 false))))
noncomputable def z5x (l1:(List Int)):Option (Int×(List Int)):=
 some ((l1.length:Int),l1)
noncomputable def z2o (l1:(List Int)) (s2:Bs):Option (Int×Int×(List Int)):=
 if l1.length+s2.length≤1000000000 then (some ((s2.length:Int),0,(l1++yu s2))) else none
noncomputable def xr (v2:Int) (r7:(Bs×Bs×Bool)) (r9:(Int×Bool)) (r12:(Int×(List Int))) (v20:Bool):Option ((Int×(List Int)) ⊕ (Bs×Int×Int)):=
 if v20 then (some (.inr ([],0,9))) else (if decide (r9.1=0) then (if byR r12.2=true then (some (.inr ((strN r12.2),wr (v2+(wr ((wr ((wr ((r7.1.length:Int)+2))+r9.1))+2))),0))) else none) else ((sub? r7.2.1 0 r9.1).bind fun (l24:Bs)=>(z2o r12.2 l24).bind fun r26=>some (.inl (wr (v2+(wr ((wr ((wr ((r7.1.length:Int)+2))+r9.1))+2))),r26.2.2))))
noncomputable def ju (s1:Bs) (v2:Int) (l3:(List Int)):Option ((Int×(List Int)) ⊕ (Bs×Int×Int)):=
 (sub? s1 v2 (s1.length:Int)).bind fun (l5:Bs)=>(wo l5 [13,10]).bind fun r7=>(z2z r7.1).bind fun r9=>if ((!r7.2.2) || (!r9.2)) then (some (.inr ([],0,9))) else ((z5x l3).bind fun r12=>if decide (20000 < (wr (r12.1+r9.1))) then (some (.inr ([],0,2))) else (if decide ((r7.2.1.length:Int) < (wr (r9.1+2))) then (xr v2 r7 r9 r12 true) else ((sub? r7.2.1 r9.1 (wr (r9.1+2))).bind fun (l17:Bs)=>xr v2 r7 r9 r12 (decide (l17≠[13,10])))))
noncomputable def z24 (s1:Bs):Option (Bs×Int×Int):=
 iter (fun (s:Int×(List Int))=>ju s1 s.1 s.2) (0,([]:List Int))
noncomputable def z06 (k15:Nat) (x18:Int) (v14:Int):Option (Int ⊕ (Int×Int)):=
 if decide (9 < (IntKind.wrap .u8 (x18 - 48))) then (some (.inr (0,2))) else (some (.inl (wr ((wr (v14 * 10))+(IntKind.wrap .i64 (IntKind.wrap .u8 (x18 - 48)))))))
noncomputable def Qi (v23:Int):Option (Int×Int):=
 some (v23,0)
noncomputable def Ql (v1:Bs) (v14:Int):Option (Int×Int):=
 (v1[0]?).bind fun (x19:UInt8)=>if decide ((x19.toNat:Int)=45) then (if -9223372036854775807≤v14∧v14≤9223372036854775807 then (Qi (-v14)) else none) else (Qi v14)
noncomputable def Qk (v1:Bs) (v13:Bs):Option (Int×Int):=
 if (yu v13).length≤1000000000 then forL (fun (k:Nat) (x:Int) (s:Int)=>z06 k x s) (fun (s:Int)=>Ql v1 s) 0 (yu v13) 0 else none
noncomputable def Qj (v1:Bs) (v8:Bool):Option (Int×Int):=
 if v8 then ((sub? v1 1 (v1.length:Int)).bind fun (l10:Bs)=>if decide ((l10.length:Int) < 1) then (some (0,2)) else (Qk v1 l10)) else (Qk v1 v1)
noncomputable def Ys (v1:Bs):Option (Int×Int):=
 if ((false && ((decide (0 < (v1.length:Int))) && (decide ((v1.length:Int) < 10)))) || (true && ((decide (0 < (v1.length:Int))) && (decide ((v1.length:Int) < 19))))) then ((v1[0]?).bind fun (x3:UInt8)=>if decide ((x3.toNat:Int)=45) then (Qj v1 true) else (Qj v1 (decide ((x3.toNat:Int)=43)))) else ((Ze v1 10 0).bind fun r27=>some (r27.1,r27.2))
noncomputable def jv (s1:Bs):Option (Int×Int):=
 (Ys s1).bind fun r2=>if decide (r2.2≠0) then ((z2p [65,116,111,105] s1 0 0 r2.2).bind fun r5=>some (r2.1,r5)) else (some (r2.1,0))
noncomputable def z3y (v29:Bool):Option (Unit ⊕ (Int×Bool)):=
 if v29 then (some (.inr (0,false))) else (some (.inl ()))
noncomputable def z3x (i18:Nat) (x21:UInt8):Option (Unit ⊕ (Int×Bool)):=
 if decide ((x21.toNat:Int) < 48) then (z3y true) else (z3y (decide (57 < (x21.toNat:Int))))
noncomputable def z0w (s1:Bs):Option (Int×Bool):=
 (jv s1).bind fun r22=>some (r22.1,decide (r22.2=0))
noncomputable def jl (s1:Bs) (r3:(Bs)) (v16:Bool):Option (Int×Bool):=
 if v16 then (some (0,false)) else (if r3.length≤1000000000 then forL (fun (k:Nat) (x:UInt8) (s:Unit)=>z3x k x) (fun (s:Unit)=>z0w s1) 0 r3 () else none)
noncomputable def Yr (s1:Bs) (most2:Int):Option (Int×Bool):=
 (z0c s1 [45]).bind fun r3=>if decide (r3=[]) then (jl s1 r3 true) else (if decide (most2 < (r3.length:Int)) then (jl s1 r3 true) else ((r3[0]?).bind fun (x9:UInt8)=>if decide ((x9.toNat:Int)=48) then (jl s1 r3 (decide (s1≠[48]))) else (jl s1 r3 false)))
noncomputable def Yq (s1:Bs):Option (Int×Bool):=
 (Yr s1 9).bind fun r2=>some (r2.1,r2.2)
noncomputable def z23 (l1:(List zk)) (s2:Bs):Option (Bs×Int×Int):=
 (jk l1 [116,114,97,110,115,102,101,114,45,101,110,99,111,100,105,110,103]).bind fun r3=>if decide ((r3.length:Int)=1) then ((z24 s2).bind fun r6=>some (r6.1,r6.2.1,r6.2.2)) else ((jk l1 [99,111,110,116,101,110,116,45,108,101,110,103,116,104]).bind fun r8=>if decide ((r8.length:Int)=0) then (some ([],0,0)) else ((r8[0]?).bind fun (x11:Bs)=>(Yq x11).bind fun r13=>if ((!r13.2) || (decide (20000 < r13.1))) then (some ([],0,2)) else (if decide ((s2.length:Int) < r13.1) then (some ([],0,9)) else ((sub? s2 0 r13.1).bind fun (l17:Bs)=>some (l17,r13.1,0)))))
noncomputable def z7z (p1:zk→Option (Bool)) (k2:Nat) (x5:zk):Option (Unit ⊕ (Int)):=
 (p1 x5).bind fun r8=>if r8 then (some (.inr (k2:Int))) else (some (.inl ()))
noncomputable def z71:Option (Int):=
 some (-1)
noncomputable def z8i (s1:(List zk)) (p1:zk→Option (Bool)):Option (Int):=
 if s1.length≤1000000000 then forL (fun (k:Nat) (x:zk) (s:Unit)=>z7z p1 k x) (fun (s:Unit)=>z71) 0 s1 () else none
noncomputable def z2a (j6:Int) (i17:Int) (s18:(List zk)):Option ((Int×Int×(List zk)) ⊕ ((List zk))):=
 some (.inl (i17,wr (j6+1),s18))
noncomputable def z48 (i19:Int) (s20:(List zk)):Option ((List zk)):=
 if (0:Int)≤i19∧i19 < (s20.length:Int) then (if (0:Int)≤i19∧i19≤((s20.take i19.toNat++List.replicate (s20.length - i19.toNat) (zk.mk [] [])).length:Int) then (some ((s20.take i19.toNat++List.replicate (s20.length - i19.toNat) (zk.mk [] [])).take i19.toNat)) else none) else none
noncomputable def z77 (p1:zk→Option (Bool)) (i5:Int) (j6:Int) (l7:(List zk)):Option ((Int×Int×(List zk)) ⊕ ((List zk))):=
 if decide (j6 < (l7.length:Int)) then ((at? l7 j6).bind fun (x10:zk)=>(p1 x10).bind fun r12=>if !r12 then ((at? l7 i5).bind fun (x15:zk)=>z2a j6 (wr (i5+1)) (l7.set i5.toNat x10)) else (z2a j6 i5 l7)) else (Option.map .inr (z48 i5 l7))
noncomputable def xz (s1:(List zk)) (p1:zk→Option (Bool)):Option ((List zk)):=
 (z8i s1 p1).bind fun r2=>if decide (r2=(-1)) then some s1 else (iter (fun (s:Int×Int×(List zk))=>z77 p1 s.1 s.2.1 s.2.2) (r2,wr (r2+1),s1))
noncomputable def Wy (v9:Bool):Option (Bool):=
 some v9
noncomputable def Yn (h1:zk):Option (Bool):=
 (Zb h1 [99,111,110,116,101,110,116,45,108,101,110,103,116,104]).bind fun r2=>if r2 then (Wy true) else ((Zb h1 [116,114,97,110,115,102,101,114,45,101,110,99,111,100,105,110,103]).bind fun r6=>Wy r6)
noncomputable def z0v (h1:wq) (s2:Bs) (hosts3:Int):Option ((List zk)×Bs×Int×Int):=
 (z2y h1.headers_ hosts3).bind fun r4=>if decide (r4≠0) then (some ([],[],0,r4)) else ((sub? s2 h1.at_ (s2.length:Int)).bind fun (l7:Bs)=>(z23 h1.headers_ l7).bind fun r9=>if decide (r9.2.2≠0) then (some ([],[],0,r9.2.2)) else ((kn h1.headers_).bind fun r12=>(xz r12 (fun (a0:zk)=>Yn a0)).bind fun r14=>some (r14,r9.1,wr (h1.at_+r9.2.1),0)))
noncomputable def Ym (h1:zk) (c2:Bs):Option (Bool):=
 (Zb h1 c2).bind fun r3=>some r3
noncomputable def z0h (l1:(List zk)) (name2:Bs):Option ((List zk)):=
 (kn l1).bind fun r3=>(xz r3 (fun (a0:zk)=>Ym a0 name2)).bind fun r5=>some r5
noncomputable def z3e (n1:Int):Option (Bool):=
 some ((decide (0≤n1)) && (decide (n1 < 345686400000)))
noncomputable def z3d (n1:Int) (low2:Int) (high3:Int):Option (Bool):=
 some ((decide (n1 < low2)) || (decide (high3 < n1)))
noncomputable def xp (v19:Bool):Option (Bool):=
 some v19
noncomputable def Ww (v32:Bool):Option (Unit ⊕ (Bool)):=
 if v32 then (some (.inr false)) else (some (.inl ()))
noncomputable def z2g (k2:Nat) (x5:UInt8):Option (Unit ⊕ (Bool)):=
 (z2v (x5.toNat:Int)).bind fun r22=>if !r22 then ((z0j (x5.toNat:Int)).bind fun r26=>if !r26 then (Ww (decide ((x5.toNat:Int)≠45))) else (Ww false)) else (Ww false)
noncomputable def z2h (s1:Bs):Option (Bool):=
 if decide (s1≠[]) then (if decide ((s1.length:Int)≤63) then ((s1[0]?).bind fun (x10:UInt8)=>if decide ((x10.toNat:Int)≠45) then ((at? s1 (wr ((s1.length:Int) - 1))).bind fun (x14:UInt8)=>xp (decide ((x14.toNat:Int)≠45))) else (xp false)) else (xp false)) else (xp false)
noncomputable def z2x (s1:Bs):Option (Bool):=
 if s1.length≤1000000000 then forL (fun (k:Nat) (x:UInt8) (s:Unit)=>z2g k x) (fun (s:Unit)=>z2h s1) 0 s1 () else none
noncomputable def xq (v23:Bool):Option (Bool):=
 some v23
noncomputable def z5m (k6:Nat) (x9:Bs):Option (Unit ⊕ (Bool)):=
 (z2x x9).bind fun r26=>if !r26 then (some (.inr false)) else (some (.inl ()))
noncomputable def z2i (s1:Bs) (r2:(Bs×Bs×Bool)):Option (Bool):=
 (Yq r2.2.1).bind fun r10=>if decide ((s1.length:Int)≤255) then (if !r2.2.2 then (xq true) else (if r10.2 then ((z3d r10.1 1 65535).bind fun r18=>xq (!r18)) else (xq false))) else (xq false)
noncomputable def z0i (s1:Bs):Option (Bool):=
 (wo s1 [58]).bind fun r2=>(vw r2.1 [46]).bind fun r4=>if r4.length≤1000000000 then forL (fun (k:Nat) (x:Bs) (s:Unit)=>z5m k x) (fun (s:Unit)=>z2i s1 r2) 0 r4 () else none
noncomputable def xt (v17:Bool):Option (Int):=
 if v17 then some 3 else some 0
noncomputable def Yo (s1:Bs):Option (Int):=
 if decide (1000 < (s1.length:Int)) then (xt true) else ((z8f s1 [47]).bind fun r4=>if !r4 then (xt true) else ((ux s1 33 126).bind fun r8=>if !r8 then (xt true) else ((z0e s1 [63,35]).bind fun r12=>xt r12)))
noncomputable def Yg (v12:Bool):Option (Int):=
 if v12 then some 3 else some 0
noncomputable def z2s (s1:Bs):Option (Int):=
 if decide (1000 < (s1.length:Int)) then (Yg true) else ((ux s1 33 126).bind fun r4=>if !r4 then (Yg true) else ((z0f s1 [35]).bind fun r8=>Yg r8))
noncomputable def z5r (k3:Nat) (x6:zk):Option (Unit ⊕ (Int)):=
 (Yp x6.Name).bind fun r9=>if !r9 then (some (.inr 5)) else ((Zc x6.Value).bind fun r12=>if !r12 then (some (.inr 3)) else (some (.inl ())))
noncomputable def z5s:Option (Int):=
 some 0
noncomputable def z0k (l1:(List zk)):Option (Int):=
 if decide (50 < (l1.length:Int)) then some 2 else (if l1.length≤1000000000 then forL (fun (k:Nat) (x:zk) (s:Unit)=>z5r k x) (fun (s:Unit)=>z5s) 0 l1 () else none)
noncomputable def xu (r1:yd) (v25:Bool):Option (Int):=
 if v25 then some 3 else ((z0k r1.Headers).bind fun r27=>if decide (r27≠0) then some r27 else (if decide (20000 < (r1.Body.length:Int)) then some 2 else some 0))
noncomputable def z3b (r1:yd):Option (Int):=
 (z3e r1.At).bind fun r2=>if !r2 then some 1 else ((Yp r1.Method).bind fun r5=>if !r5 then some 5 else ((z0i r1.Host).bind fun r8=>if !r8 then (xu r1 true) else ((Yo r1.Path).bind fun r12=>if decide (r12≠0) then (xu r1 true) else ((z2s r1.Query).bind fun r16=>if decide (r16≠0) then (xu r1 true) else ((Zc r1.From).bind fun r20=>xu r1 (!r20))))))
noncomputable def kb (v1:Bs) (r3:(wq×Bool)) (r5:((List Bs)×Bool)) (v18:Bool):Option (yd×Int×Int):=
 if v18 then (some ((yd.mk 0 [] [] [] [] [] [] []),0,9)) else (if decide (50 < (r3.1.headers_.length:Int)) then (some ((yd.mk 0 [] [] [] [] [] [] []),0,2)) else ((jk r3.1.headers_ [104,111,115,116]).bind fun r21=>if decide ((r21.length:Int)=0) then (some ((yd.mk 0 [] [] [] [] [] [] []),0,8)) else ((z0v r3.1 v1 (r21.length:Int)).bind fun r24=>if decide (r24.2.2.2≠0) then (some ((yd.mk 0 [] [] [] [] [] [] []),0,r24.2.2.2)) else ((r5.1[0]?).bind fun (x27:Bs)=>(r21[0]?).bind fun (x29:Bs)=>(z0h r24.1 [104,111,115,116]).bind fun r31=>(r5.1[1]?).bind fun (x33:Bs)=>(wo x33 [63]).bind fun r35=>(z3b (yd.mk 0 x27 x29 r35.1 r35.2.1 [] r31 r24.2.1)).bind fun r37=>if decide (r37≠0) then (some ((yd.mk 0 [] [] [] [] [] [] []),0,r37)) else (some ((yd.mk 0 x27 x29 r35.1 r35.2.1 [] r31 r24.2.1),r24.2.2.1,0))))))
noncomputable def z28 (v1:Bs):Option (yd×Int×Int):=
 if decide (60000 < (v1.length:Int)) then (some ((yd.mk 0 [] [] [] [] [] [] []),0,2)) else ((Za v1).bind fun r3=>(z3c r3.1.first_).bind fun r5=>if !r3.2 then (kb v1 r3 r5 true) else (if !r5.2 then (kb v1 r3 r5 true) else (if decide ((r5.1.length:Int)≠3) then (kb v1 r3 r5 true) else ((r5.1[2]?).bind fun (x13:Bs)=>kb v1 r3 r5 (decide (x13≠[72,84,84,80,47,49,46,49]))))))
noncomputable def kc (n1:Int) (low2:Int) (high3:Int):Option (Bool):=
 some ((decide (low2≤n1)) && (decide (n1≤high3)))
noncomputable def z6r (some2:Bs) (k3:Nat) (x6:UInt8):Option (Unit ⊕ (Bool)):=
 (z2m some2 (x6.toNat:Int)).bind fun r9=>if decide (r9 < 0) then (some (.inr false)) else (some (.inl ()))
noncomputable def z9d:Option (Bool):=
 some true
noncomputable def vn (s1:Bs) (some2:Bs):Option (Bool):=
 if s1.length≤1000000000 then forL (fun (k:Nat) (x:UInt8) (s:Unit)=>z6r some2 k x) (fun (s:Unit)=>z9d) 0 s1 () else none
noncomputable def z1a (v9:Bool):Option (Bool):=
 some v9
noncomputable def Yw (s1:Bs):Option (Bool):=
 (kc (s1.length:Int) 1 100).bind fun r2=>if r2 then ((vn s1 [97,98,99,100,101,102,103,104,105,106,107,108,109,110,111,112,113,114,115,116,117,118,119,120,121,122,65,66,67,68,69,70,71,72,73,74,75,76,77,78,79,80,81,82,83,84,85,86,87,88,89,90,48,49,50,51,52,53,54,55,56,57,33,35,36,37,38,39,42,43,45,46,94,95,96,124,126]).bind fun r6=>z1a r6) else (z1a false)
noncomputable def z4b (v12:Bool):Option (Unit ⊕ (Bool)):=
 if v12 then (some (.inr false)) else (some (.inl ()))
noncomputable def z9b (low2:Int) (k3:Nat) (x6:UInt8):Option (Unit ⊕ (Bool)):=
 if decide ((x6.toNat:Int) < low2) then (z4b true) else (z4b (decide (126 < (x6.toNat:Int))))
noncomputable def z9c:Option (Bool):=
 some true
noncomputable def Zf (s1:Bs) (low2:Int):Option (Bool):=
 if s1.length≤1000000000 then forL (fun (k:Nat) (x:UInt8) (s:Unit)=>z9b low2 k x) (fun (s:Unit)=>z9c) 0 s1 () else none
noncomputable def z1e (v12:Bool):Option (Bool):=
 some v12
noncomputable def z0r (s1:Bs):Option (Bool):=
 if decide ((s1.length:Int)≤2000) then ((Zf s1 32).bind fun r4=>if r4 then ((uw s1 [32]).bind fun r8=>z1e (decide (r8=s1))) else (z1e false)) else (z1e false)
noncomputable def Qq (r2:(Bs×Bs×Bool)) (l6:(List zk)) (r8:(Bs×Bs×Bool)) (r12:(Bs×Bs×Bool)) (r14:(Bs)) (v26:Bool):Option ((Bs×(List zk)) ⊕ (qp×Int)):=
 if v26 then (some (.inr ((qp.mk r2.1 l6 []),9))) else (if l6.length+1≤1000000000 then (some (.inl (r8.2.1,(l6++[(zk.mk r12.1 r14)])))) else none)
noncomputable def z6s (r2:(Bs×Bs×Bool)) (l29:(List zk)) (c30:Bs):Option (qp×Int):=
 some ((qp.mk r2.1 l29 c30),0)
noncomputable def ku (r2:(Bs×Bs×Bool)) (v5:Bs) (l6:(List zk)):Option ((Bs×(List zk)) ⊕ (qp×Int)):=
 (wo v5 [13,10]).bind fun r8=>if !r8.2.2 then (some (.inr ((qp.mk r2.1 l6 []),9))) else (if decide (r8.1=[]) then (Option.map .inr (z6s r2 l6 r8.2.1)) else ((wo r8.1 [58]).bind fun r12=>(uw r12.2.1 [32]).bind fun r14=>if !r12.2.2 then (Qq r2 l6 r8 r12 r14 true) else ((Yw r12.1).bind fun r18=>if !r18 then (Qq r2 l6 r8 r12 r14 true) else ((z0r r14).bind fun r22=>Qq r2 l6 r8 r12 r14 (!r22)))))
noncomputable def Zh (v1:Bs):Option (qp×Int):=
 (wo v1 [13,10]).bind fun r2=>if !r2.2.2 then (some ((qp.mk r2.1 [] []),9)) else (iter (fun (s:Bs×(List zk))=>ku r2 s.1 s.2) (r2.2.1,([]:List zk)))
noncomputable def z09 (out14:(List Bs)):Option ((List Bs) ⊕ ((List Bs))):=
 some (.inl out14)
noncomputable def Zq (name2:Bs) (k4:Nat) (x7:zk) (l3:(List Bs)):Option ((List Bs) ⊕ ((List Bs))):=
 (ko x7.Name name2).bind fun r10=>if r10 then (if l3.length+1≤1000000000 then (z09 (l3++[x7.Value])) else none) else (z09 l3)
noncomputable def z6t (l3:(List Bs)):Option ((List Bs)):=
 some l3
noncomputable def vy (l1:(List zk)) (name2:Bs):Option ((List Bs)):=
 if l1.length≤1000000000 then forL (fun (k:Nat) (x:zk) (s:(List Bs))=>Zq name2 k x s) (fun (s:(List Bs))=>z6t s) 0 l1 [] else none
noncomputable def z7x (p1:Bs→Option (Bool)) (k2:Nat) (x5:Bs):Option (Unit ⊕ (Int)):=
 (p1 x5).bind fun r8=>if r8 then (some (.inr (k2:Int))) else (some (.inl ()))
noncomputable def z7y:Option (Int):=
 some (-1)
noncomputable def z8h (s1:(List Bs)) (p1:Bs→Option (Bool)):Option (Int):=
 if s1.length≤1000000000 then forL (fun (k:Nat) (x:Bs) (s:Unit)=>z7x p1 k x) (fun (s:Unit)=>z7y) 0 s1 () else none
noncomputable def z5z (s1:(List Bs)) (p1:Bs→Option (Bool)):Option (Bool):=
 (z8h s1 p1).bind fun r2=>some (decide (0≤r2))
noncomputable def Yt (n1:Bs) (c2:(List zk)):Option (Bool):=
 (vy c2 n1).bind fun r3=>some (decide (1 < (r3.length:Int)))
noncomputable def Zg (l1:(List zk)) (names2:(List Bs)):Option (Bool):=
 (z5z names2 (fun (a0:Bs)=>Yt a0 l1)).bind fun r3=>some r3
noncomputable def z1f (v1:Bs) (v2:Bs) (r5:(Bs×Bs×Bool)) (r7:(Int×Int)) (v35:Bool):Option ((Bs×Bs) ⊕ (Bs×Int×Int)):=
 if v35 then (some (.inr ([],0,9))) else ((sub? r5.2.1 0 r7.1).bind fun (l37:Bs)=>if v2.length+l37.length≤1000000000 then ((sub? r5.2.1 (wr (r7.1+2)) (r5.2.1.length:Int)).bind fun (l40:Bs)=>if decide (r7.1=0) then (some (.inr ((v2++l37),wr ((v1.length:Int) - (l40.length:Int)),0))) else (some (.inl ((v2++l37),l40)))) else none)
noncomputable def kw (v1:Bs) (v2:Bs) (r5:(Bs×Bs×Bool)) (r7:(Int×Int)) (v27:Bool):Option ((Bs×Bs) ⊕ (Bs×Int×Int)):=
 if v27 then (some (.inr ([],0,9))) else (if decide (20000 < (wr ((v2.length:Int)+r7.1))) then (some (.inr ([],0,2))) else (if decide ((r5.2.1.length:Int) < (wr (r7.1+2))) then (z1f v1 v2 r5 r7 true) else ((sub? r5.2.1 r7.1 (wr (r7.1+2))).bind fun (l32:Bs)=>z1f v1 v2 r5 r7 (decide (l32≠[13,10])))))
noncomputable def jy (v1:Bs) (v2:Bs) (v3:Bs):Option ((Bs×Bs) ⊕ (Bs×Int×Int)):=
 (wo v3 [13,10]).bind fun r5=>(xx r5.1 16 64).bind fun r7=>if !r5.2.2 then (kw v1 v2 r5 r7 true) else (if decide (r7.2≠0) then (kw v1 v2 r5 r7 true) else ((kc (r5.1.length:Int) 1 8).bind fun r13=>if !r13 then (kw v1 v2 r5 r7 true) else ((vn r5.1 [48,49,50,51,52,53,54,55,56,57,97,98,99,100,101,102]).bind fun r17=>if !r17 then (kw v1 v2 r5 r7 true) else ((z0g r7.1 16).bind fun r21=>kw v1 v2 r5 r7 (decide (r5.1≠r21))))))
noncomputable def z3p (v1:Bs):Option (Bs×Int×Int):=
 iter (fun (s:Bs×Bs)=>jy v1 s.1 s.2) ([],v1)
noncomputable def Zp (v15:Bool):Option (Bool):=
 some v15
noncomputable def z3h (s1:Bs):Option (Bool):=
 if decide (s1≠[]) then ((vn s1 [48,49,50,51,52,53,54,55,56,57]).bind fun r4=>if r4 then (if decide (s1=[48]) then (Zp true) else ((s1[0]?).bind fun (x10:UInt8)=>Zp (decide ((x10.toNat:Int)≠48)))) else (Zp false)) else (Zp false)
noncomputable def z1b (r15:(Int×Int)) (v22:Bool):Option (Int×Bool):=
 some (r15.1,v22)
noncomputable def kv (s1:Bs) (v13:Bool):Option (Int×Bool):=
 if v13 then (some (0,false)) else ((jv s1).bind fun r15=>if decide (r15.2=0) then ((xy r15.1).bind fun r19=>z1b r15 (decide (r19=s1))) else (z1b r15 false))
noncomputable def Zi (s1:Bs) (most2:Int):Option (Int×Bool):=
 (z0c s1 [45]).bind fun r3=>if decide (r3=[]) then (kv s1 true) else (if decide (most2 < (r3.length:Int)) then (kv s1 true) else ((vn r3 [48,49,50,51,52,53,54,55,56,57]).bind fun r9=>kv s1 (!r9)))
noncomputable def Yv (v1:qp):Option (Bs×Bs×Int):=
 (vy v1.headers_ [99,111,110,116,101,110,116,45,108,101,110,103,116,104]).bind fun r2=>(vy v1.headers_ [116,114,97,110,115,102,101,114,45,101,110,99,111,100,105,110,103]).bind fun r4=>if ((decide (0 < (r2.length:Int))) && (decide (0 < (r4.length:Int)))) then (some ([],[],13)) else (if decide (0 < (r4.length:Int)) then ((r4[0]?).bind fun (x8:Bs)=>if decide (x8≠[99,104,117,110,107,101,100]) then (some ([],[],3)) else ((z3p v1.rest_).bind fun r11=>if decide (r11.2.2≠0) then (some ([],[],r11.2.2)) else ((sub? v1.rest_ r11.2.1 (v1.rest_.length:Int)).bind fun (l14:Bs)=>some (r11.1,l14,0)))) else (if decide ((r2.length:Int)=0) then (some ([],v1.rest_,0)) else ((r2[0]?).bind fun (x17:Bs)=>(z3h x17).bind fun r19=>if !r19 then (some ([],[],3)) else ((Zi x17 9).bind fun r22=>if ((!r22.2) || (decide (20000 < r22.1))) then (some ([],[],2)) else (if decide ((v1.rest_.length:Int) < r22.1) then (some ([],[],9)) else ((sub? v1.rest_ 0 r22.1).bind fun (l26:Bs)=>(sub? v1.rest_ r22.1 (v1.rest_.length:Int)).bind fun (l28:Bs)=>some (l26,l28,0)))))))
noncomputable def Yu (h1:zk) (c2:Bool):Option (Bool):=
 (z0n h1.Name c2).bind fun r3=>some r3
noncomputable def z0m (l1:(List zk)) (request2:Bool):Option ((List zk)):=
 (kn l1).bind fun r3=>(xz r3 (fun (a0:zk)=>Yu a0 request2)).bind fun r5=>some r5
noncomputable def z6a (v1:Int):Option (Bool):=
 (kc v1 0 345686399999).bind fun r2=>some r2
noncomputable def z1d (v30:Bs):Option (Bs×Int):=
 some (v30,0)
noncomputable def uk (v45:Bool):Option (Unit ⊕ (Bs×Int)):=
 if v45 then (some (.inr ([],3))) else (some (.inl ()))
noncomputable def z1c (k21:Nat) (x24:Bs):Option (Unit ⊕ (Bs×Int)):=
 (kc (x24.length:Int) 1 63).bind fun r33=>if !r33 then (uk true) else ((vn x24 [97,98,99,100,101,102,103,104,105,106,107,108,109,110,111,112,113,114,115,116,117,118,119,120,121,122,65,66,67,68,69,70,71,72,73,74,75,76,77,78,79,80,81,82,83,84,85,86,87,88,89,90,48,49,50,51,52,53,54,55,56,57,45]).bind fun r37=>if !r37 then (uk true) else ((uw x24 [45]).bind fun r41=>uk (decide (r41≠x24))))
noncomputable def z4c (r2:(Bs×Bs×Bool)) (r4:(Int×Bool)):Option (Bs×Int):=
 (Yk r2.1).bind fun r25=>if ((r2.2.2 && (decide (r4.1≠80))) && (decide (r4.1≠443))) then (if [58].length+r2.2.1.length≤1000000000 then (if r25.length+([58]++r2.2.1).length≤1000000000 then (z1d (r25++([58]++r2.2.1))) else none) else none) else (z1d r25)
noncomputable def ul (r2:(Bs×Bs×Bool)) (r4:(Int×Bool)) (v17:Bool):Option (Bs×Int):=
 if v17 then (some ([],3)) else ((vw r2.1 [46]).bind fun r19=>if r19.length≤1000000000 then forL (fun (k:Nat) (x:Bs) (s:Unit)=>z1c k x) (fun (s:Unit)=>z4c r2 r4) 0 r19 () else none)
noncomputable def z0p (v1:Bs):Option (Bs×Int):=
 (wo v1 [58]).bind fun r2=>(Zi r2.2.1 5).bind fun r4=>if decide (255 < (v1.length:Int)) then (ul r2 r4 true) else (if r2.2.2 then (if !r4.2 then (ul r2 r4 true) else ((kc r4.1 1 65535).bind fun r12=>ul r2 r4 (!r12))) else (ul r2 r4 false))
noncomputable def Zo (v19:Bool):Option (Bool):=
 some v19
noncomputable def z3g (s1:Bs):Option (Bool):=
 (kc (s1.length:Int) 1 1000).bind fun r2=>if r2 then ((s1[0]?).bind fun (x6:UInt8)=>if decide ((x6.toNat:Int)=47) then ((Zf s1 33).bind fun r10=>if r10 then ((z0e s1 [63,35]).bind fun r14=>Zo (!r14)) else (Zo false)) else (Zo false)) else (Zo false)
noncomputable def Qp (v12:Bool):Option (Bool):=
 some v12
noncomputable def z3f (s1:Bs):Option (Bool):=
 if decide ((s1.length:Int)≤1000) then ((Zf s1 33).bind fun r4=>if r4 then ((z0f s1 [35]).bind fun r8=>Qp (!r8)) else (Qp false)) else (Qp false)
noncomputable def z6u (k3:Nat) (x6:zk):Option (Unit ⊕ (Int)):=
 (Yw x6.Name).bind fun r9=>if !r9 then (some (.inr 5)) else ((z0r x6.Value).bind fun r12=>if !r12 then (some (.inr 3)) else (some (.inl ())))
noncomputable def z6v:Option (Int):=
 some 0
noncomputable def z0q (l1:(List zk)):Option (Int):=
 if decide (50 < (l1.length:Int)) then some 2 else (if l1.length≤1000000000 then forL (fun (k:Nat) (x:zk) (s:Unit)=>z6u k x) (fun (s:Unit)=>z6v) 0 l1 () else none)
noncomputable def Qt (r1:yd) (v23:Bool):Option (Int):=
 if v23 then some 3 else ((z0q r1.Headers).bind fun r25=>if decide (r25≠0) then some r25 else (if decide (20000 < (r1.Body.length:Int)) then some 2 else some 0))
noncomputable def z3o (r1:yd):Option (Int):=
 (z6a r1.At).bind fun r2=>if !r2 then some 1 else ((Yw r1.Method).bind fun r5=>if !r5 then some 5 else ((z0p r1.Host).bind fun r8=>if decide (r8.2≠0) then some r8.2 else ((z3g r1.Path).bind fun r11=>if !r11 then (Qt r1 true) else ((z3f r1.Query).bind fun r15=>if !r15 then (Qt r1 true) else ((z0r r1.From).bind fun r19=>Qt r1 (!r19))))))
noncomputable def kh (v1:Bs) (r3:(qp×Int)) (r5:((List Bs))) (v20:Bool):Option (yd×Int×Int):=
 if v20 then (some ((yd.mk 0 [] [] [] [] [] [] []),0,9)) else ((vy r3.1.headers_ [104,111,115,116]).bind fun r22=>if decide (50 < (r3.1.headers_.length:Int)) then (some ((yd.mk 0 [] [] [] [] [] [] []),0,2)) else (if decide ((r22.length:Int)=0) then (some ((yd.mk 0 [] [] [] [] [] [] []),0,8)) else ((Zg r3.1.headers_ ([[104,111,115,116],[99,111,110,116,101,110,116,45,108,101,110,103,116,104],[116,114,97,110,115,102,101,114,45,101,110,99,111,100,105,110,103]])).bind fun r26=>if r26 then (some ((yd.mk 0 [] [] [] [] [] [] []),0,6)) else ((Yv r3.1).bind fun r29=>if decide (r29.2.2≠0) then (some ((yd.mk 0 [] [] [] [] [] [] []),0,r29.2.2)) else ((r5[1]?).bind fun (x32:Bs)=>(wo x32 [63]).bind fun r34=>(r5[0]?).bind fun (x36:Bs)=>(r22[0]?).bind fun (x38:Bs)=>(z0m r3.1.headers_ true).bind fun r40=>(z3o (yd.mk 0 x36 x38 r34.1 r34.2.1 [] r40 r29.1)).bind fun r42=>if decide (r42≠0) then (some ((yd.mk 0 [] [] [] [] [] [] []),0,r42)) else (some ((yd.mk 0 x36 x38 r34.1 r34.2.1 [] r40 r29.1),wr ((v1.length:Int) - (r29.2.1.length:Int)),0)))))))
noncomputable def z3n (v1:Bs):Option (yd×Int×Int):=
 if decide (60000 < (v1.length:Int)) then (some ((yd.mk 0 [] [] [] [] [] [] []),0,2)) else ((Zh v1).bind fun r3=>(vw r3.1.first_ [32]).bind fun r5=>if decide (r3.2≠0) then (kh v1 r3 r5 true) else (if decide ((r5.length:Int)≠3) then (kh v1 r3 r5 true) else ((Yl r5 []).bind fun r11=>if r11 then (kh v1 r3 r5 true) else ((r5[2]?).bind fun (x15:Bs)=>kh v1 r3 r5 (decide (x15≠[72,84,84,80,47,49,46,49]))))))
noncomputable def z0z (v8:Bool):Option (Bool):=
 some v8
noncomputable def z52 (s1:Bs) (v2:Bs):Option (Bool):=
 if decide ((v2.length:Int)≤(s1.length:Int)) then ((sub? s1 0 (v2.length:Int)).bind fun (l5:Bs)=>z0z (decide (l5=v2))) else (z0z false)
noncomputable def z55 (s1:Bs) (v2:Bs):Option (Bs×Bool):=
 (z52 s1 v2).bind fun r3=>if !r3 then (some (s1,false)) else ((sub? s1 (v2.length:Int) (s1.length:Int)).bind fun (l6:Bs)=>some (l6,true))
noncomputable def ud (s1:Bs) (v2:Bs):Option (Bs×Bool):=
 (z55 s1 v2).bind fun r3=>some (r3.1,r3.2)
noncomputable def uu (r2:(Bs×Bool)) (v26:Bool):Option (Int×Bool):=
 if v26 then (some (0,false)) else ((sub? r2.1 0 3).bind fun (l28:Bs)=>(jv l28).bind fun r30=>some (r30.1,decide (r30.2=0)))
noncomputable def z2r (s1:Bs):Option (Int×Bool):=
 (ud s1 [72,84,84,80,47,49,46,49,32]).bind fun r2=>if !r2.2 then (uu r2 true) else (if decide ((r2.1.length:Int) < 4) then (uu r2 true) else ((sub? r2.1 0 3).bind fun (l8:Bs)=>(uc l8 [48,49,50,51,52,53,54,55,56,57]).bind fun r10=>if decide (r10≠[]) then (uu r2 true) else ((r2.1[3]?).bind fun (x14:UInt8)=>if decide ((x14.toNat:Int)≠32) then (uu r2 true) else ((sub? r2.1 4 (r2.1.length:Int)).bind fun (l18:Bs)=>(ux l18 32 126).bind fun r20=>uu r2 (!r20)))))
noncomputable def z3a (a1:yj):Option (Int):=
 (z3d a1.Status 100 599).bind fun r2=>if r2 then some 1 else ((z0k a1.Headers).bind fun r5=>if decide (r5≠0) then some r5 else (if decide (20000 < (a1.Body.length:Int)) then some 2 else some 0))
noncomputable def z26 (v1:Bs):Option (yj×Int×Int):=
 if decide (60000 < (v1.length:Int)) then (some ((yj.mk 0 [] []),0,2)) else ((Za v1).bind fun r3=>(z2r r3.1.first_).bind fun r5=>if ((!r3.2) || (!r5.2)) then (some ((yj.mk 0 [] []),0,9)) else (if decide (50 < (r3.1.headers_.length:Int)) then (some ((yj.mk 0 [] []),0,2)) else ((z0v r3.1 v1 0).bind fun r9=>if decide (r9.2.2.2≠0) then (some ((yj.mk 0 [] []),0,r9.2.2.2)) else ((z3a (yj.mk r5.1 r9.1 r9.2.1)).bind fun r12=>if decide (r12≠0) then (some ((yj.mk 0 [] []),0,r12)) else (some ((yj.mk r5.1 r9.1 r9.2.1),r9.2.2.1,0))))))
noncomputable def z3l (a1:yj):Option (Int):=
 (kc a1.Status 100 599).bind fun r2=>if !r2 then some 1 else ((z0q a1.Headers).bind fun r5=>if decide (r5≠0) then some r5 else (if decide (20000 < (a1.Body.length:Int)) then some 2 else some 0))
noncomputable def vz (v1:Bs) (r3:(qp×Int)) (r5:(Bs×Bool)) (v30:Bool):Option (yj×Int×Int):=
 if v30 then (some ((yj.mk 0 [] []),0,9)) else (if decide (50 < (r3.1.headers_.length:Int)) then (some ((yj.mk 0 [] []),0,2)) else ((Zg r3.1.headers_ ([[99,111,110,116,101,110,116,45,108,101,110,103,116,104],[116,114,97,110,115,102,101,114,45,101,110,99,111,100,105,110,103]])).bind fun r33=>if r33 then (some ((yj.mk 0 [] []),0,6)) else ((Yv r3.1).bind fun r36=>if decide (r36.2.2≠0) then (some ((yj.mk 0 [] []),0,r36.2.2)) else ((sub? r5.1 0 3).bind fun (l39:Bs)=>(jv l39).bind fun r41=>(z0m r3.1.headers_ false).bind fun r43=>(z3l (yj.mk r41.1 r43 r36.1)).bind fun r45=>if decide (r45≠0) then (some ((yj.mk 0 [] []),0,r45)) else (some ((yj.mk r41.1 r43 r36.1),wr ((v1.length:Int) - (r36.2.1.length:Int)),0))))))
noncomputable def z3k (v1:Bs):Option (yj×Int×Int):=
 if decide (60000 < (v1.length:Int)) then (some ((yj.mk 0 [] []),0,2)) else ((Zh v1).bind fun r3=>(ud r3.1.first_ [72,84,84,80,47,49,46,49,32]).bind fun r5=>if decide (r3.2≠0) then (vz v1 r3 r5 true) else (if !r5.2 then (vz v1 r3 r5 true) else (if decide ((r5.1.length:Int) < 4) then (vz v1 r3 r5 true) else ((r5.1[3]?).bind fun (x13:UInt8)=>if decide ((x13.toNat:Int)≠32) then (vz v1 r3 r5 true) else ((sub? r5.1 0 3).bind fun (l17:Bs)=>(vn l17 [48,49,50,51,52,53,54,55,56,57]).bind fun r19=>if !r19 then (vz v1 r3 r5 true) else ((Zf r5.1 32).bind fun r23=>vz v1 r3 r5 (!r23)))))))
noncomputable def z73 (s2:(List zk)) (k4:Nat) (x7:zk):Option (Unit ⊕ (Bool)):=
 (s2[k4]?).bind fun (x10:zk)=>if (!((x7.Name == x10.Name) && ((x7.Value == x10.Value) && true))) then (some (.inr false)) else (some (.inl ()))
noncomputable def z74:Option (Bool):=
 some true
noncomputable def z2q (s1:(List zk)) (s2:(List zk)):Option (Bool):=
 if decide ((s1.length:Int)≠(s2.length:Int)) then some false else (if s1.length≤1000000000 then forL (fun (k:Nat) (x:zk) (s:Unit)=>z73 s2 k x) (fun (s:Unit)=>z74) 0 s1 () else none)
noncomputable def kg (v26:Bool):Option (Bool):=
 some v26
noncomputable def z3j (a1:yd) (b2:yd):Option (Bool):=
 if decide (a1.At=b2.At) then (if decide (a1.Method=b2.Method) then (if decide (a1.Host=b2.Host) then (if decide (a1.Path=b2.Path) then (if decide (a1.Query=b2.Query) then (if decide (a1.From=b2.From) then (if decide (a1.Body=b2.Body) then ((z2q a1.Headers b2.Headers).bind fun r17=>kg r17) else (kg false)) else (kg false)) else (kg false)) else (kg false)) else (kg false)) else (kg false)) else (kg false)
noncomputable def Qr (v11:Bool):Option (Bool):=
 some v11
noncomputable def z3i (a1:yj) (b2:yj):Option (Bool):=
 if decide (a1.Status=b2.Status) then (if decide (a1.Body=b2.Body) then ((z2q a1.Headers b2.Headers).bind fun r7=>Qr r7) else (Qr false)) else (Qr false)
noncomputable def z5w (l1:(List Int)) (c2:Int):Option (Int×(List Int)):=
 if l1.length+1≤1000000000 then (some (0,(l1++[c2]))) else none
noncomputable def z50 (c1:Int):Option (Bool):=
 (z0j c1).bind fun r2=>some ((r2 || ((decide (97≤c1)) && (decide (c1≤102)))) || ((decide (65≤c1)) && (decide (c1≤70))))
noncomputable def Wt (v17:Bool):Option (Bool):=
 some v17
noncomputable def z8l (s1:Bs) (v2:Int):Option (Bool):=
 if decide ((wr (v2+2)) < (s1.length:Int)) then ((at? s1 (wr (v2+1))).bind fun (x5:UInt8)=>(z50 (x5.toNat:Int)).bind fun r7=>if r7 then ((at? s1 (wr (v2+2))).bind fun (x11:UInt8)=>(z50 (x11.toNat:Int)).bind fun r13=>Wt r13) else (Wt false)) else (Wt false)
noncomputable def z8g (s1:Bs) (base2:Int) (bitSize3:Int):Option (Int×Int):=
 (Zd s1 base2 bitSize3).bind fun r4=>if decide (r4.2≠0) then ((z2p [80,97,114,115,101,85,105,110,116] s1 base2 bitSize3 r4.2).bind fun r7=>some (r4.1,r7)) else (some (r4.1,0))
noncomputable def z8j (s1:Bs) (v2:Int):Option (Int):=
 (sub? s1 (wr (v2+1)) (wr (v2+3))).bind fun (l3:Bs)=>(z8g l3 16 8).bind fun r5=>if decide (r5.2≠0) then some 0 else (some (IntKind.wrap .u8 r5.1))
noncomputable def Wx (v14:Bool):Option (Bool):=
 some v14
noncomputable def z8m (c1:Int):Option (Bool):=
 (z2v c1).bind fun r2=>if r2 then (Wx true) else ((z0j c1).bind fun r6=>if r6 then (Wx true) else ((z2m [45,46,95,126] c1).bind fun r10=>Wx (decide (0≤r10))))
noncomputable def z8k (c1:Int):Option (Bs):=
 (at? [48,49,50,51,52,53,54,55,56,57,65,66,67,68,69,70] (shr_ .u8 c1 4)).bind fun (x2:UInt8)=>(at? [48,49,50,51,52,53,54,55,56,57,65,66,67,68,69,70] (and_ .u8 c1 15)).bind fun (x4:UInt8)=>some (strN [37,(x2.toNat:Int),(x4.toNat:Int)])
noncomputable def z2f (i26:Int) (l27:(List Int)):Option ((Int×(List Int)) ⊕ (Bs×Bool)):=
 some (.inl (wr (i26+1),l27))
noncomputable def z2e (i2:Int) (l25:(List Int)):Option ((Int×(List Int)) ⊕ (Bs×Bool)):=
 z2f (wr (i2+2)) l25
noncomputable def z5j (l28:(List Int)):Option (Bs×Bool):=
 if byR l28=true then (some ((strN l28),true)) else none
noncomputable def z8d (s1:Bs) (i2:Int) (l3:(List Int)):Option ((Int×(List Int)) ⊕ (Bs×Bool)):=
 if decide (i2 < (s1.length:Int)) then ((at? s1 i2).bind fun (x6:UInt8)=>if decide ((x6.toNat:Int)≠37) then ((z5w l3 (x6.toNat:Int)).bind fun r9=>z2f i2 r9.2) else ((z8l s1 i2).bind fun r11=>if !r11 then (some (.inr ([],false))) else ((z8j s1 i2).bind fun r14=>(z8m r14).bind fun r16=>if r16 then ((z5w l3 r14).bind fun r19=>z2e i2 r19.2) else ((z8k r14).bind fun r21=>(z2o l3 r21).bind fun r23=>z2e i2 r23.2.2)))) else (Option.map .inr (z5j l3))
noncomputable def z2t (s1:Bs):Option (Bs×Bool):=
 iter (fun (s:Int×(List Int))=>z8d s1 s.1 s.2) (0,([]:List Int))
noncomputable def z0a (out29:(List Bs)):Option ((List Bs) ⊕ (Bs×Int)):=
 some (.inl out29)
noncomputable def z2j (r10:((List Bs))) (k13:Nat) (out26:(List Bs)):Option ((List Bs) ⊕ (Bs×Int)):=
 if decide ((k13:Int)=(wr ((r10.length:Int) - 1))) then (if out26.length+1≤1000000000 then (z0a (out26++([[]]))) else none) else (z0a out26)
noncomputable def z5o (r10:((List Bs))) (k13:Nat) (x16:Bs) (l12:(List Bs)):Option ((List Bs) ⊕ (Bs×Int)):=
 if decide (x16=[46]) then (z2j r10 k13 l12) else (if decide (x16=[46,46]) then (if (0:Int)≤(max (wr ((l12.length:Int) - 1)) 0)∧(max (wr ((l12.length:Int) - 1)) 0)≤(l12.length:Int) then (z2j r10 k13 (l12.take (max (wr ((l12.length:Int) - 1)) 0).toNat)) else none) else (if l12.length+1≤1000000000 then (z0a (l12++[x16])) else none))
noncomputable def z5p (l12:(List Bs)):Option (Bs×Int):=
 (z5u l12 [47]).bind fun r17=>if [47].length+r17.length≤1000000000 then (some (([47]++r17),0)) else none
noncomputable def z29 (s1:Bs):Option (Bs×Int):=
 (Yo s1).bind fun r2=>if decide (r2≠0) then (some ([],r2)) else ((z2t s1).bind fun r5=>if !r5.2 then (some ([],9)) else ((sub? r5.1 1 (r5.1.length:Int)).bind fun (l8:Bs)=>(vw l8 [47]).bind fun r10=>if r10.length≤1000000000 then forL (fun (k:Nat) (x:Bs) (s:(List Bs))=>z5o r10 k x s) (fun (s:(List Bs))=>z5p s) 0 r10 [] else none))
noncomputable def z3u  : Option (Bool):=
 (z29 [47,97,47,46,46,47,98]).bind fun r1=>some ((decide (r1.2=0)) && (decide (r1.1=[47,98])))
noncomputable def kx (v43:Bool):Option (Bool):=
 some v43
noncomputable def Qz (r4:(Bs×ya)) (v10:Bs):Option (Bool):=
 (z28 v10).bind fun r11=>(z3n v10).bind fun r13=>(z26 r4.1).bind fun r15=>(z3k r4.1).bind fun r17=>(z3j r11.1 r13.1).bind fun r19=>if r19 then (if decide (r11.2.1=r13.2.1) then (if decide (r11.2.2=r13.2.2) then ((z3i r15.1 r17.1).bind fun r27=>if r27 then (if decide (r15.2.1=r17.2.1) then (if decide (r15.2.2=r17.2.2) then ((z3u ).bind fun r35=>kx r35) else (kx false)) else (kx false)) else (kx false)) else (kx false)) else (kx false)) else (kx false)
noncomputable def z6c (v1:(List Int)):Option (Bool):=
 (z0t (ya.mk v1 0) true).bind fun r2=>(z0t r2.2 false).bind fun r4=>(Zj r4.2 60).bind fun r6=>if r6.1 then (if 0≤(60001:Int)∧(60001:Int)≤1000000000 then (Qz r4 (strN (List.replicate ((60001:Int).toNat) (0:Int)))) else none) else (Qz r4 r2.1)
end Go.Proofs.YtbcmpepmafpibabGreatDoor
