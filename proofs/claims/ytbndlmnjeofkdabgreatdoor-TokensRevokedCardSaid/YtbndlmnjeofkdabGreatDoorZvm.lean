/- Plain models of functions. Printed by a program. -/
import Derived.Test.YtbndlmnjeofkdabGreatDoorMc
import Derived.Test.YtbndlmnjeofkdabGreatDoorRng
import Derived.Test.YtbndlmnjeofkdabGreatDoorMl
namespace Go.Proofs.YtbndlmnjeofkdabGreatDoor
set_option linter.unusedVariables false
set_option maxRecDepth 20000
structure zm where
 L:(List Int)
 at_:Int
structure zc where
 Id:Bs
 At:Int
 Until:Int
structure yi where
 Id:Bs
 Subject:Bs
 Issuer:Bs
 Parent:Bs
 Audience:(List Bs)
 Scopes:(List Bs)
 From:Int
 To:Int
noncomputable def Zn (x6:Int):Option (Int):=
 some x6
noncomputable def um (x1:Int) (n2:Int):Option (Int):=
 if decide (n2 < 1) then some 0 else (if n2≠0 then (if decide ((Int.tmod x1 n2) < 0) then (Zn (wr ((Int.tmod x1 n2)+n2))) else (Zn (Int.tmod x1 n2))) else none)
noncomputable def vp (s1:zm) (n2:Int):Option (Int×zm):=
 if decide ((s1.L.length:Int)=0) then ((um (wr ((wr (s1.at_+1)) * 7919)) n2).bind fun r4=>some (r4,(zm.mk s1.L (wr (s1.at_+1))))) else (if (s1.L.length:Int)≠0 then (if ((0:Int)≤(wr ((wr (s1.at_+1)) - 1))∧(wr ((wr (s1.at_+1)) - 1))≤9223372036854775807)∧(0:Int) < (s1.L.length:Int) then ((at? s1.L (Int.tmod (wr ((wr (s1.at_+1)) - 1)) (s1.L.length:Int))).bind fun (x8:Int)=>(um x8 1073741824).bind fun r10=>(um (wr (r10+(wr (((wr ((wr (s1.at_+1)) - 1)) / (s1.L.length:Int)) * (wr (7919+(Int.tmod (wr ((wr (s1.at_+1)) - 1)) (s1.L.length:Int)))))))) n2).bind fun r12=>some (r12,(zm.mk s1.L (wr (s1.at_+1))))) else none) else none)
noncomputable def vq (s1:zm) (n2:Int):Option (Bool×zm):=
 (vp s1 n2).bind fun r3=>some (decide (r3.1=0),r3.2)
noncomputable def wb (s1:zm) (l2:(List Bs)):Option (Bs×zm):=
 (vp s1 (l2.length:Int)).bind fun r3=>(at? l2 r3.1).bind fun (x5:Bs)=>some (x5,r3.2)
noncomputable def jc (s1:zm) (l2:(List Int)):Option (Int×zm):=
 (vp s1 (l2.length:Int)).bind fun r3=>(at? l2 r3.1).bind fun (x5:Int)=>some (x5,r3.2)
noncomputable def Zf (s1:zm) (low2:Int) (high3:Int):Option (Int×zm):=
 if decide (high3 < low2) then (some (low2,s1)) else ((vp s1 (wr ((wr (high3 - low2))+1))).bind fun r5=>some (wr (low2+r5.1),r5.2))
noncomputable def kr (s1:zm) (low2:Int) (high3:Int):Option (Int×zm):=
 (vq s1 12).bind fun r4=>if r4.1 then ((jc r4.2 [wr (low2 - 1),wr (high3+1),low2,high3,(-1099511627776),1099511627776]).bind fun r7=>some (r7.1,r7.2)) else ((Zf r4.2 low2 high3).bind fun r9=>some (r9.1,r9.2))
noncomputable def Zm (out19:(List zc)) (c20:(List Int)) (c21:Int):Option ((List zc)×zm):=
 some (out19,(zm.mk c20 c21))
noncomputable def Zl (out32:(List zc)) (c33:(List Int)) (c34:Int):Option (((List Int)×Int×(List zc)) ⊕ ((List zc)×zm)):=
 some (.inl (c33,c34,out32))
noncomputable def z1b (k5:Nat) (x8:Bs) (c2:(List Int)) (c3:Int) (l4:(List zc)):Option (((List Int)×Int×(List zc)) ⊕ ((List zc)×zm)):=
 (vq (zm.mk c2 c3) 3).bind fun r24=>if r24.1 then ((jc r24.2 [0,60,100]).bind fun r27=>(jc r27.2 [0,50,200]).bind fun r29=>if l4.length+1≤1000000000 then (Zl (l4++[(zc.mk x8 r27.1 (wr (r27.1+r29.1)))]) r29.2.L r29.2.at_) else none) else (Zl l4 r24.2.L r24.2.at_)
noncomputable def z1c (c2:(List Int)) (c3:Int) (l4:(List zc)):Option ((List zc)×zm):=
 (vq (zm.mk c2 c3) 15).bind fun r9=>if r9.1 then ((wb r9.2 ([[],[116,49],[116,57]])).bind fun r12=>(kr r12.2 0 50).bind fun r14=>(kr r14.2 50 300).bind fun r16=>if l4.length+1≤1000000000 then (Zm (l4++[(zc.mk r12.1 r14.1 r16.1)]) r16.2.L r16.2.at_) else none) else (Zm l4 r9.2.L r9.2.at_)
noncomputable def Qt (s1:zm):Option ((List zc)×zm):=
 if ([[116,48],[116,49],[116,50]]).length≤1000000000 then forL (fun (k:Nat) (x:Bs) (s:(List Int)×Int×(List zc))=>z1b k x s.1 s.2.1 s.2.2) (fun (s:(List Int)×Int×(List zc))=>z1c s.1 s.2.1 s.2.2) 0 ([[116,48],[116,49],[116,50]]) (s1.L,s1.at_,[]) else none
noncomputable def Zk (k7:Nat) (c4:(List Int)) (c5:Int) (l6:(List Bs)):Option (((List Int)×Int×(List Bs)) ⊕ ((List Bs)×zm)):=
 (wb (zm.mk c4 c5) ([[97],[97,58,42],[97,58,98],[97,58,98,58,42],[97,58,98,58,99],[98],[98,58,42],[98,58,99],[42]])).bind fun r11=>if l6.length+1≤1000000000 then (some (.inl (r11.2.L,r11.2.at_,(l6++[r11.1])))) else none
noncomputable def Wb (c4:(List Int)) (c5:Int) (l6:(List Bs)):Option ((List Bs)×zm):=
 some (l6,(zm.mk c4 c5))
noncomputable def kq (s1:zm):Option ((List Bs)×zm):=
 (Zf s1 0 4).bind fun r2=>if r2.1≤1000000000 then rng (fun (k:Nat) (s:(List Int)×Int×(List Bs))=>Zk k s.1 s.2.1 s.2.2) (fun (s:(List Int)×Int×(List Bs))=>Wb s.1 s.2.1 s.2.2) r2.1.toNat 0 (r2.2.L,r2.2.at_,[]) else none
noncomputable def z2b (p1:Bs→Option (Bool)) (k2:Nat) (x5:Bs):Option (Unit ⊕ (Int)):=
 (p1 x5).bind fun r8=>if r8 then (some (.inr (k2:Int))) else (some (.inl ()))
noncomputable def z2c:Option (Int):=
 some (-1)
noncomputable def z0t (s1:(List Bs)) (p1:Bs→Option (Bool)):Option (Int):=
 if s1.length≤1000000000 then forL (fun (k:Nat) (x:Bs) (s:Unit)=>z2b p1 k x) (fun (s:Unit)=>z2c) 0 s1 () else none
noncomputable def Qe (s1:(List Bs)) (p1:Bs→Option (Bool)):Option (Bool):=
 (z0t s1 p1).bind fun r2=>some (decide (0≤r2))
noncomputable def Ql (a1:Bs) (b2:Bs):Option (Bool):=
 (uj a1 [42]).bind fun r3=>if r3.2 then ((Qa b2 r3.1).bind fun r6=>some r6) else (some (decide (a1=b2)))
noncomputable def Zi (v8:Bool):Option (Bool):=
 some v8
noncomputable def Qo (o1:Bs) (c2:Bs):Option (Bool):=
 if decide (o1≠c2) then ((Ql o1 c2).bind fun r5=>Zi r5) else (Zi false)
noncomputable def Zh (out17:(List Bs)):Option ((List Bs) ⊕ ((List Bs))):=
 some (.inl out17)
noncomputable def z08 (l1:(List Bs)) (k3:Nat) (x6:Bs) (l2:(List Bs)):Option ((List Bs) ⊕ ((List Bs))):=
 (Qe l1 (fun (a0:Bs)=>Qo a0 x6)).bind fun r13=>if !r13 then (if l2.length+1≤1000000000 then (Zh (l2++[x6])) else none) else (Zh l2)
noncomputable def z09 (l2:(List Bs)):Option ((List Bs)):=
 (kl l2).bind fun r7=>(uk r7).bind fun r9=>some r9
noncomputable def Ze (l1:(List Bs)):Option ((List Bs)):=
 if l1.length≤1000000000 then forL (fun (k:Nat) (x:Bs) (s:(List Bs))=>z08 l1 k x s) (fun (s:(List Bs))=>z09 s) 0 l1 [] else none
noncomputable def Qs (s1:zm):Option (yi×zm):=
 (wb s1 ([[116,49],[116,49],[116,50],[116,51]])).bind fun r2=>(wb r2.2 ([[97,110,110],[98,111,98]])).bind fun r4=>(wb r4.2 ([[103,97,116,101],[103,97,116,101],[103,97,116,101],[111,116,104,101,114]])).bind fun r6=>(wb r6.2 ([[],[],[],[116,48],[116,50]])).bind fun r8=>(vp r8.2 5).bind fun r10=>(at? ([[],[],[[115,104,111,112]],[[109,97,112,115],[115,104,111,112]],[[109,97,112,115]]]) r10.1).bind fun (x12:(List Bs))=>(kq r10.2).bind fun r14=>(Ze r14.1).bind fun r16=>(jc r14.2 [0,50,100]).bind fun r18=>(jc r18.2 [1,50,100,200]).bind fun r20=>some ((yi.mk r2.1 r4.1 r6.1 r8.1 x12 r16 r18.1 (wr (r18.1+r20.1))),r20.2)
noncomputable def Qr (s1:zm):Option (Bs×zm):=
 (vq s1 25).bind fun r2=>if r2.1 then ((ui [97,58] 10).bind fun r5=>if r5.length+[97].length≤1000000000 then ((wb r2.2 ([[],[97,58,42,58,98],[65],[97,58,58,98],[97,58],[42,42],[97,42],(r5++[97])])).bind fun r8=>some (r8.1,r8.2)) else none) else ((wb r2.2 ([[42],[97],[97,58,42],[97,58,98],[97,58,98,58,42],[97,58,98,58,99],[98],[98,58,42],[98,58,99],[99]])).bind fun r10=>some (r10.1,r10.2))
noncomputable def Zj (out17:(List Bs)) (c18:(List Int)) (c19:Int):Option ((List Bs)×zm):=
 some (out17,(zm.mk c18 c19))
noncomputable def xa (out10:(List Bs)) (c11:(List Int)) (c12:Int):Option ((List Bs)×zm):=
 (vq (zm.mk c11 c12) 60).bind fun r13=>if r13.1 then (if 51≤1000000000 then (Zj (List.replicate 51 []) r13.2.L r13.2.at_) else none) else (Zj out10 r13.2.L r13.2.at_)
noncomputable def Qq (s1:zm):Option ((List Bs)×zm):=
 (kq s1).bind fun r2=>(vq r2.2 6).bind fun r4=>if r4.1 then ((Qr r4.2).bind fun r7=>if r2.1.length+1≤1000000000 then (xa (r2.1++[r7.1]) r7.2.L r7.2.at_) else none) else (xa r2.1 r4.2.L r4.2.at_)
noncomputable def jh (c31:(List Int)) (c32:Int) (c33:Bs) (c34:Bs) (c35:Bs) (c36:Bs) (c37:(List Bs)) (c38:(List Bs)) (c39:Int) (c40:Int):Option (yi×zm):=
 some ((yi.mk c33 c34 c35 c36 c37 c38 c39 c40),(zm.mk c31 c32))
noncomputable def Qv (s1:zm):Option (yi×zm):=
 (Qs s1).bind fun r2=>(vq r2.2 8).bind fun r4=>if r4.1 then ((vp r4.2 5).bind fun r7=>if decide (r7.1=0) then ((wb r7.2 ([[],[65],[116,49]])).bind fun r10=>(wb r10.2 ([[97,110,110],[]])).bind fun r12=>jh r12.2.L r12.2.at_ r10.1 r12.1 r2.1.Issuer r2.1.Parent r2.1.Audience r2.1.Scopes r2.1.From r2.1.To) else (if decide (r7.1=1) then ((wb r7.2 ([[],[103,97,116,101]])).bind fun r15=>(wb r15.2 ([[65],[116,48]])).bind fun r17=>jh r17.2.L r17.2.at_ r2.1.Id r2.1.Subject r15.1 r17.1 r2.1.Audience r2.1.Scopes r2.1.From r2.1.To) else (if decide (r7.1=2) then ((vp r7.2 3).bind fun r20=>(at? ([[[115,104,111,112],[109,97,112,115]],[[]],[[97],[97]]]) r20.1).bind fun (x22:(List Bs))=>jh r20.2.L r20.2.at_ r2.1.Id r2.1.Subject r2.1.Issuer r2.1.Parent x22 r2.1.Scopes r2.1.From r2.1.To) else (if decide (r7.1=3) then ((Qq r7.2).bind fun r25=>jh r25.2.L r25.2.at_ r2.1.Id r2.1.Subject r2.1.Issuer r2.1.Parent r2.1.Audience r25.1 r2.1.From r2.1.To) else ((kr r7.2 0 300).bind fun r27=>(kr r27.2 0 300).bind fun r29=>jh r29.2.L r29.2.at_ r2.1.Id r2.1.Subject r2.1.Issuer r2.1.Parent r2.1.Audience r2.1.Scopes r27.1 r29.1))))) else (jh r4.2.L r4.2.at_ r2.1.Id r2.1.Subject r2.1.Issuer r2.1.Parent r2.1.Audience r2.1.Scopes r2.1.From r2.1.To)
noncomputable def Qu (s1:zm):Option (Int×zm):=
 (jc s1 [0,10,49,50,60,99,100,101,149,150,200,300,1000,(-1),345686400000]).bind fun r2=>some (r2.1,r2.2)
noncomputable def z02 (i2:Nat) (x5:UInt8):Option (Unit ⊕ (Bool)):=
 if !(((decide (97≤(x5.toNat:Int))) && (decide ((x5.toNat:Int)≤122))) || ((decide (0 < (i2:Int))) && ((((decide (48≤(x5.toNat:Int))) && (decide ((x5.toNat:Int)≤57))) || (decide ((x5.toNat:Int)=45))) || (decide ((x5.toNat:Int)=95))))) then (some (.inr false)) else (some (.inl ()))
noncomputable def z28 (s1:Bs):Option (Bool):=
 some ((decide (s1≠[])) && (decide ((s1.length:Int)≤40)))
noncomputable def vn (s1:Bs):Option (Bool):=
 if s1.length≤1000000000 then forL (fun (k:Nat) (x:UInt8) (s:Unit)=>z02 k x) (fun (s:Unit)=>z28 s1) 0 s1 () else none
noncomputable def z23 (n1:Int) (low2:Int) (high3:Int):Option (Bool):=
 some ((decide (n1 < low2)) || (decide (high3 < n1)))
noncomputable def xr (x6:zc) (v17:Bool):Option (Unit ⊕ (Int)):=
 if v17 then (some (.inr 7)) else ((z23 x6.At 0 x6.Until).bind fun r19=>if (r19 || (decide (345686400000 < x6.Until))) then (some (.inr 1)) else (some (.inl ())))
noncomputable def Zy (l1:(List zc)) (k3:Nat) (x6:zc):Option (Unit ⊕ (Int)):=
 (vn x6.Id).bind fun r9=>if !r9 then (some (.inr 5)) else (if decide (0 < (k3:Int)) then ((at? l1 ((k3:Int) - 1)).bind fun (x14:zc)=>xr x6 (Op.bytesLess x6.Id x14.Id || x6.Id == x14.Id)) else (xr x6 false))
noncomputable def Wz:Option (Int):=
 some 0
noncomputable def kj (l1:(List zc)):Option (Int):=
 if decide (1000 < (l1.length:Int)) then some 2 else (if l1.length≤1000000000 then forL (fun (k:Nat) (x:zc) (s:Unit)=>Zy l1 k x) (fun (s:Unit)=>Wz) 0 l1 () else none)
noncomputable def uo (v16:Bool):Option (Unit ⊕ (Int)):=
 if v16 then (some (.inr 7)) else (some (.inl ()))
noncomputable def z01 (l1:(List Bs)) (k2:Nat) (x5:Bs):Option (Unit ⊕ (Int)):=
 (vn x5).bind fun r8=>if !r8 then (some (.inr 5)) else (if decide (0 < (k2:Int)) then ((at? l1 ((k2:Int) - 1)).bind fun (x13:Bs)=>uo (Op.bytesLess x5 x13 || x5 == x13)) else (uo false))
noncomputable def z27:Option (Int):=
 some 0
noncomputable def Qh (l1:(List Bs)):Option (Int):=
 if l1.length≤1000000000 then forL (fun (k:Nat) (x:Bs) (s:Unit)=>z01 l1 k x) (fun (s:Unit)=>z27) 0 l1 () else none
noncomputable def Ww (r2:((List Bs))) (k4:Nat) (x7:Bs):Option (Unit ⊕ (Bool)):=
 (vn x7).bind fun r10=>if ((!r10) && (!((decide (x7=[42])) && (decide ((k4:Int)=(wr ((r2.length:Int) - 1))))))) then (some (.inr false)) else (some (.inl ()))
noncomputable def z1s (r2:((List Bs))):Option (Bool):=
 some (decide ((r2.length:Int)≤10))
noncomputable def Yu (s1:Bs):Option (Bool):=
 (kk s1 [58]).bind fun r2=>if r2.length≤1000000000 then forL (fun (k:Nat) (x:Bs) (s:Unit)=>Ww r2 k x) (fun (s:Unit)=>z1s r2) 0 r2 () else none
noncomputable def Wy (k3:Nat) (x6:Bs):Option (Unit ⊕ (Int)):=
 (Yu x6).bind fun r9=>if !r9 then (some (.inr 3)) else (some (.inl ()))
noncomputable def z1y:Option (Int):=
 some 0
noncomputable def Yy (l1:(List Bs)):Option (Int):=
 if decide (50 < (l1.length:Int)) then some 2 else (if l1.length≤1000000000 then forL (fun (k:Nat) (x:Bs) (s:Unit)=>Wy k x) (fun (s:Unit)=>z1y) 0 l1 () else none)
noncomputable def Qi (l1:(List Bs)):Option ((List Bs)):=
 (wa l1).bind fun r2=>(kl r2).bind fun r4=>(uk r4).bind fun r6=>some r6
noncomputable def Yh (j6:Int) (i17:Int) (s18:(List Bs)):Option ((Int×Int×(List Bs)) ⊕ ((List Bs))):=
 some (.inl (i17,wr (j6+1),s18))
noncomputable def z0g (i19:Int) (s20:(List Bs)):Option ((List Bs)):=
 if (0:Int)≤i19∧i19 < (s20.length:Int) then (if (0:Int)≤i19∧i19≤((s20.take i19.toNat++List.replicate (s20.length - i19.toNat) []).length:Int) then (some ((s20.take i19.toNat++List.replicate (s20.length - i19.toNat) []).take i19.toNat)) else none) else none
noncomputable def z2k (p1:Bs→Option (Bool)) (i5:Int) (j6:Int) (l7:(List Bs)):Option ((Int×Int×(List Bs)) ⊕ ((List Bs))):=
 if decide (j6 < (l7.length:Int)) then ((at? l7 j6).bind fun (x10:Bs)=>(p1 x10).bind fun r12=>if !r12 then ((at? l7 i5).bind fun (x15:Bs)=>Yh j6 (wr (i5+1)) (l7.set i5.toNat x10)) else (Yh j6 i5 l7)) else (Option.map .inr (z0g i5 l7))
noncomputable def z0v (s1:(List Bs)) (p1:Bs→Option (Bool)):Option ((List Bs)):=
 (z0t s1 p1).bind fun r2=>if decide (r2=(-1)) then some s1 else (iter (fun (s:Int×Int×(List Bs))=>z2k p1 s.1 s.2.1 s.2.2) (r2,wr (r2+1),s1))
noncomputable def xq (v11:Bool):Option (Bool):=
 some v11
noncomputable def Yv (a1:Bs) (b2:Bs):Option (Bool):=
 if decide (a1=b2) then some true else ((uj a1 [42]).bind fun r4=>if r4.2 then ((Qa b2 r4.1).bind fun r8=>xq r8) else (xq false))
noncomputable def xp (v8:Bool):Option (Bool):=
 some v8
noncomputable def Yr (h1:Bs) (c2:Bs):Option (Bool):=
 if decide (h1≠c2) then ((Yv h1 c2).bind fun r5=>xp r5) else (xp false)
noncomputable def Ys (s1:Bs) (c2:(List Bs)):Option (Bool):=
 (Qe c2 (fun (a0:Bs)=>Yr a0 s1)).bind fun r3=>some r3
noncomputable def Yt (l1:(List Bs)):Option ((List Bs)):=
 (Qi l1).bind fun r2=>(wa r2).bind fun r4=>(z0v r4 (fun (a0:Bs)=>Ys a0 r2)).bind fun r6=>some r6
noncomputable def z0f (s2:(List Bs)) (k4:Nat) (x7:Bs):Option (Unit ⊕ (Bool)):=
 (s2[k4]?).bind fun (x10:Bs)=>if decide (x7≠x10) then (some (.inr false)) else (some (.inl ()))
noncomputable def z2h:Option (Bool):=
 some true
noncomputable def Za (s1:(List Bs)) (s2:(List Bs)):Option (Bool):=
 if decide ((s1.length:Int)≠(s2.length:Int)) then some false else (if s1.length≤1000000000 then forL (fun (k:Nat) (x:Bs) (s:Unit)=>z0f s2 k x) (fun (s:Unit)=>z2h) 0 s1 () else none)
noncomputable def vz (v1:yi) (v22:Bool):Option (Int):=
 if v22 then some 5 else (if decide (50 < (v1.Audience.length:Int)) then some 2 else ((Qh v1.Audience).bind fun r25=>if decide (r25≠0) then some r25 else ((Yy v1.Scopes).bind fun r28=>if decide (r28≠0) then some r28 else ((Yt v1.Scopes).bind fun r31=>(Za v1.Scopes r31).bind fun r33=>if !r33 then some 7 else (if (((decide (v1.From < 0)) || (decide (v1.To≤v1.From))) || (decide (345686400000 < v1.To))) then some 1 else some 0)))))
noncomputable def Yz (v1:yi):Option (Int):=
 (vn v1.Id).bind fun r2=>if !r2 then (vz v1 true) else ((vn v1.Subject).bind fun r6=>if !r6 then (vz v1 true) else ((vn v1.Issuer).bind fun r10=>if !r10 then (vz v1 true) else (if decide (v1.Parent≠[]) then ((vn v1.Parent).bind fun r16=>vz v1 (!r16)) else (vz v1 false))))
noncomputable def Qj (n1:Int):Option (Bool):=
 some ((decide (0≤n1)) && (decide (n1 < 345686400000)))
noncomputable def ug (v1:Int):Option (Int):=
 (Qj v1).bind fun r2=>if !r2 then some 1 else some 0
noncomputable def ki (r1:zc) (id2:Bs):Option (Int):=
 (z2w r1.Id id2).bind fun r3=>some r3
noncomputable def Yj (i12:Int) (v20:Bool):Option (Int×Bool):=
 some (i12,v20)
noncomputable def z0i (x1:(List zc)) (target2:Bs) (p2:zc→Bs→Option (Int)) (i12:Int):Option (Int×Bool):=
 if decide (i12 < (x1.length:Int)) then ((at? x1 i12).bind fun (x15:zc)=>(p2 x15 target2).bind fun r17=>Yj i12 (decide (r17=0))) else (Yj i12 false)
noncomputable def z2m (x1:(List zc)) (target2:Bs) (p2:zc→Bs→Option (Int)) (i3:Int) (j4:Int):Option ((Int×Int) ⊕ (Int×Bool)):=
 if decide (i3 < j4) then ((at? x1 (IntKind.wrap .i64 (shr_ .u64 (IntKind.wrap .u64 (wr (i3+j4))) 1))).bind fun (x7:zc)=>(p2 x7 target2).bind fun r9=>if decide (r9 < 0) then (some (.inl (wr ((IntKind.wrap .i64 (shr_ .u64 (IntKind.wrap .u64 (wr (i3+j4))) 1))+1),j4))) else (some (.inl (i3,IntKind.wrap .i64 (shr_ .u64 (IntKind.wrap .u64 (wr (i3+j4))) 1))))) else (Option.map .inr (z0i x1 target2 p2 i3))
noncomputable def Qf (x1:(List zc)) (target2:Bs) (p2:zc→Bs→Option (Int)):Option (Int×Bool):=
 iter (fun (s:Int×Int)=>z2m x1 target2 p2 s.1 s.2) (0,(x1.length:Int))
noncomputable def uh (v1:(List zc)) (v2:yi) (v3:Int):Option ((List zc)×Int):=
 (kj v1).bind fun r4=>if decide (r4≠0) then (some ([],r4)) else ((Yz v2).bind fun r7=>if decide (r7≠0) then (some ([],r7)) else ((ug v3).bind fun r10=>if decide (r10≠0) then (some ([],r10)) else ((wa v1).bind fun r13=>if decide (v2.To≤v3) then (some (r13,0)) else ((Qf r13 v2.Id (fun (a0:zc) (a1:Bs)=>ki a0 a1)).bind fun r16=>if r16.2 then ((at? r13 r16.1).bind fun (x19:zc)=>(at? (r13.set r16.1.toNat (zc.mk x19.Id (min x19.At v3) x19.Until)) r16.1).bind fun (x21:zc)=>some (((r13.set r16.1.toNat (zc.mk x19.Id (min x19.At v3) x19.Until)).set r16.1.toNat (zc.mk x21.Id x21.At (max x19.Until v2.To))),0)) else (if decide (1000≤(r13.length:Int)) then (some ([],2)) else ((xz r13 r16.1 [(zc.mk v2.Id v3 v2.To)]).bind fun r24=>some (r24,0)))))))
noncomputable def z2f (p1:zc→Option (Bool)) (k2:Nat) (x5:zc):Option (Unit ⊕ (Int)):=
 (p1 x5).bind fun r8=>if r8 then (some (.inr (k2:Int))) else (some (.inl ()))
noncomputable def z2g:Option (Int):=
 some (-1)
noncomputable def z2y (s1:(List zc)) (p1:zc→Option (Bool)):Option (Int):=
 if s1.length≤1000000000 then forL (fun (k:Nat) (x:zc) (s:Unit)=>z2f p1 k x) (fun (s:Unit)=>z2g) 0 s1 () else none
noncomputable def Yi (j6:Int) (i17:Int) (s18:(List zc)):Option ((Int×Int×(List zc)) ⊕ ((List zc))):=
 some (.inl (i17,wr (j6+1),s18))
noncomputable def z0h (i19:Int) (s20:(List zc)):Option ((List zc)):=
 if (0:Int)≤i19∧i19 < (s20.length:Int) then (if (0:Int)≤i19∧i19≤((s20.take i19.toNat++List.replicate (s20.length - i19.toNat) (zc.mk [] 0 0)).length:Int) then (some ((s20.take i19.toNat++List.replicate (s20.length - i19.toNat) (zc.mk [] 0 0)).take i19.toNat)) else none) else none
noncomputable def z2l (p1:zc→Option (Bool)) (i5:Int) (j6:Int) (l7:(List zc)):Option ((Int×Int×(List zc)) ⊕ ((List zc))):=
 if decide (j6 < (l7.length:Int)) then ((at? l7 j6).bind fun (x10:zc)=>(p1 x10).bind fun r12=>if !r12 then ((at? l7 i5).bind fun (x15:zc)=>Yi j6 (wr (i5+1)) (l7.set i5.toNat x10)) else (Yi j6 i5 l7)) else (Option.map .inr (z0h i5 l7))
noncomputable def Qd (s1:(List zc)) (p1:zc→Option (Bool)):Option ((List zc)):=
 (z2y s1 p1).bind fun r2=>if decide (r2=(-1)) then some s1 else (iter (fun (s:Int×Int×(List zc))=>z2l p1 s.1 s.2.1 s.2.2) (r2,wr (r2+1),s1))
noncomputable def Yw (r1:zc) (c2:Int):Option (Bool):=
 some (decide (r1.Until≤c2))
noncomputable def xy (l1:(List zc)) (v2:Int):Option ((List zc)×Int):=
 (kj l1).bind fun r3=>if decide (r3≠0) then (some ([],r3)) else ((ug v2).bind fun r6=>if decide (r6≠0) then (some ([],r6)) else ((wa l1).bind fun r9=>(Qd r9 (fun (a0:zc)=>Yw a0 v2)).bind fun r11=>some (r11,0)))
noncomputable def km (n1:Int) (low2:Int) (high3:Int):Option (Bool):=
 some ((decide (low2≤n1)) && (decide (n1≤high3)))
noncomputable def z05 (some2:Bs) (k3:Nat) (x6:UInt8):Option (Unit ⊕ (Bool)):=
 (z2v some2 (x6.toNat:Int)).bind fun r9=>if decide (r9 < 0) then (some (.inr false)) else (some (.inl ()))
noncomputable def z3h:Option (Bool):=
 some true
noncomputable def Zb (s1:Bs) (some2:Bs):Option (Bool):=
 if s1.length≤1000000000 then forL (fun (k:Nat) (x:UInt8) (s:Unit)=>z05 some2 k x) (fun (s:Unit)=>z3h) 0 s1 () else none
noncomputable def uy (v16:Bool):Option (Bool):=
 some v16
noncomputable def vo (s1:Bs):Option (Bool):=
 (km (s1.length:Int) 1 40).bind fun r2=>if r2 then ((sub? s1 0 1).bind fun (l6:Bs)=>(Zb l6 [97,98,99,100,101,102,103,104,105,106,107,108,109,110,111,112,113,114,115,116,117,118,119,120,121,122]).bind fun r8=>if r8 then ((Zb s1 [97,98,99,100,101,102,103,104,105,106,107,108,109,110,111,112,113,114,115,116,117,118,119,120,121,122,48,49,50,51,52,53,54,55,56,57,45,95]).bind fun r12=>uy r12) else (uy false)) else (uy false)
noncomputable def Qz (k4:Nat) (x7:zc) (last3:Bs):Option (Bs ⊕ (Int)):=
 (vo x7.Id).bind fun r10=>if !r10 then (some (.inr 5)) else (if (Op.bytesLess x7.Id last3 || x7.Id == last3) then (some (.inr 7)) else ((km x7.At 0 x7.Until).bind fun r14=>if ((!r14) || (decide (345686400000 < x7.Until))) then (some (.inr 1)) else (some (.inl x7.Id))))
noncomputable def z07 (last3:Bs):Option (Int):=
 some 0
noncomputable def Zc (l1:(List zc)):Option (Int):=
 if decide (1000 < (l1.length:Int)) then some 2 else (if l1.length≤1000000000 then forL (fun (k:Nat) (x:zc) (s:Bs)=>Qz k x s) (fun (s:Bs)=>z07 s) 0 l1 [] else none)
noncomputable def z04 (r2:((List Bs))) (k4:Nat) (x7:Bs):Option (Unit ⊕ (Bool)):=
 (vo x7).bind fun r10=>if ((!r10) && ((decide (x7≠[42])) || (decide ((k4:Int) < (wr ((r2.length:Int) - 1)))))) then (some (.inr false)) else (some (.inl ()))
noncomputable def z3g (r2:((List Bs))):Option (Bool):=
 some (decide ((r2.length:Int)≤10))
noncomputable def Qk (s1:Bs):Option (Bool):=
 (kk s1 [58]).bind fun r2=>if r2.length≤1000000000 then forL (fun (k:Nat) (x:Bs) (s:Unit)=>z04 r2 k x) (fun (s:Unit)=>z3g r2) 0 r2 () else none
noncomputable def z06 (k3:Nat) (x6:Bs):Option (Unit ⊕ (Int)):=
 (Qk x6).bind fun r9=>if !r9 then (some (.inr 3)) else (some (.inl ()))
noncomputable def z3i:Option (Int):=
 some 0
noncomputable def Qm (l1:(List Bs)):Option (Int):=
 if decide (50 < (l1.length:Int)) then some 2 else (if l1.length≤1000000000 then forL (fun (k:Nat) (x:Bs) (s:Unit)=>z06 k x) (fun (s:Unit)=>z3i) 0 l1 () else none)
noncomputable def uz (v48:Bool):Option (Unit ⊕ (Int)):=
 if v48 then (some (.inr 7)) else (some (.inl ()))
noncomputable def z1a (v1:yi) (k25:Nat) (x28:Bs):Option (Unit ⊕ (Int)):=
 (vo x28).bind fun r40=>if !r40 then (some (.inr 5)) else (if decide (0 < (k25:Int)) then ((at? v1.Audience ((k25:Int) - 1)).bind fun (x45:Bs)=>uz (Op.bytesLess x28 x45 || x28 == x45)) else (uz false))
noncomputable def Wa (v1:yi):Option (Int):=
 (Qm v1.Scopes).bind fun r29=>if decide (r29≠0) then some r29 else ((Ze v1.Scopes).bind fun r32=>(Za r32 v1.Scopes).bind fun r34=>if !r34 then some 7 else (if (((decide (v1.From < 0)) || (decide (v1.To≤v1.From))) || (decide (345686400000 < v1.To))) then some 1 else some 0))
noncomputable def jg (v1:yi) (v22:Bool):Option (Int):=
 if v22 then some 5 else (if decide (50 < (v1.Audience.length:Int)) then some 2 else (if v1.Audience.length≤1000000000 then forL (fun (k:Nat) (x:Bs) (s:Unit)=>z1a v1 k x) (fun (s:Unit)=>Wa v1) 0 v1.Audience () else none))
noncomputable def Qp (v1:yi):Option (Int):=
 (vo v1.Id).bind fun r2=>if !r2 then (jg v1 true) else ((vo v1.Subject).bind fun r6=>if !r6 then (jg v1 true) else ((vo v1.Issuer).bind fun r10=>if !r10 then (jg v1 true) else (if decide (v1.Parent≠[]) then ((vo v1.Parent).bind fun r16=>jg v1 (!r16)) else (jg v1 false))))
noncomputable def z0w (v1:Int):Option (Bool):=
 (km v1 0 345686399999).bind fun r2=>some r2
noncomputable def z0x (is1:Bool) (e2:Int):Option (Int):=
 if is1 then some e2 else some 0
noncomputable def un (v1:Int):Option (Int):=
 (z0w v1).bind fun r2=>(z0x (!r2) 1).bind fun r4=>some r4
noncomputable def Wc (k2:Nat) (x5:Int):Option (Unit ⊕ (Int)):=
 if decide (x5≠0) then (some (.inr x5)) else (some (.inl ()))
noncomputable def Wd:Option (Int):=
 some 0
noncomputable def kt (l1:(List Int)):Option (Int):=
 if l1.length≤1000000000 then forL (fun (k:Nat) (x:Int) (s:Unit)=>Wc k x) (fun (s:Unit)=>Wd) 0 l1 () else none
noncomputable def Zd (r1:zc) (c2:yi):Option (Bool):=
 some (decide (r1.Id=c2.Id))
noncomputable def z2d (p1:zc→Option (Bool)) (k2:Nat) (x5:zc):Option (Unit ⊕ (Int)):=
 (p1 x5).bind fun r8=>if r8 then (some (.inr (k2:Int))) else (some (.inl ()))
noncomputable def z2e:Option (Int):=
 some (-1)
noncomputable def z0u (s1:(List zc)) (p1:zc→Option (Bool)):Option (Int):=
 if s1.length≤1000000000 then forL (fun (k:Nat) (x:zc) (s:Unit)=>z2d p1 k x) (fun (s:Unit)=>z2e) 0 s1 () else none
noncomputable def Yp (x6:Int) (n7:Int):Option (Int):=
 (at? [0,1,2,2,3,3,3,3,4,4,4,4,4,4,4,4,5,5,5,5,5,5,5,5,5,5,5,5,5,5,5,5,6,6,6,6,6,6,6,6,6,6,6,6,6,6,6,6,6,6,6,6,6,6,6,6,6,6,6,6,6,6,6,6,7,7,7,7,7,7,7,7,7,7,7,7,7,7,7,7,7,7,7,7,7,7,7,7,7,7,7,7,7,7,7,7,7,7,7,7,7,7,7,7,7,7,7,7,7,7,7,7,7,7,7,7,7,7,7,7,7,7,7,7,7,7,7,7,8,8,8,8,8,8,8,8,8,8,8,8,8,8,8,8,8,8,8,8,8,8,8,8,8,8,8,8,8,8,8,8,8,8,8,8,8,8,8,8,8,8,8,8,8,8,8,8,8,8,8,8,8,8,8,8,8,8,8,8,8,8,8,8,8,8,8,8,8,8,8,8,8,8,8,8,8,8,8,8,8,8,8,8,8,8,8,8,8,8,8,8,8,8,8,8,8,8,8,8,8,8,8,8,8,8,8,8,8,8,8,8,8,8,8,8,8,8,8,8,8,8,8,8,8,8,8,8] (IntKind.wrap .u8 x6)).bind fun (x8:UInt8)=>some (wr (n7+(IntKind.wrap .i64 (x8.toNat:Int))))
noncomputable def Yq (x3:Int) (n4:Int):Option (Int):=
 if decide (256≤x3) then (Yp (shr_ .u32 x3 8) (wr (n4+8))) else (Yp x3 n4)
noncomputable def z22 (x1:Int):Option (Int):=
 if decide (65536≤x1) then (Yq (shr_ .u32 x1 16) 16) else (Yq x1 0)
noncomputable def Ym (x9:Int) (n10:Int):Option (Int):=
 (at? [0,1,2,2,3,3,3,3,4,4,4,4,4,4,4,4,5,5,5,5,5,5,5,5,5,5,5,5,5,5,5,5,6,6,6,6,6,6,6,6,6,6,6,6,6,6,6,6,6,6,6,6,6,6,6,6,6,6,6,6,6,6,6,6,7,7,7,7,7,7,7,7,7,7,7,7,7,7,7,7,7,7,7,7,7,7,7,7,7,7,7,7,7,7,7,7,7,7,7,7,7,7,7,7,7,7,7,7,7,7,7,7,7,7,7,7,7,7,7,7,7,7,7,7,7,7,7,7,8,8,8,8,8,8,8,8,8,8,8,8,8,8,8,8,8,8,8,8,8,8,8,8,8,8,8,8,8,8,8,8,8,8,8,8,8,8,8,8,8,8,8,8,8,8,8,8,8,8,8,8,8,8,8,8,8,8,8,8,8,8,8,8,8,8,8,8,8,8,8,8,8,8,8,8,8,8,8,8,8,8,8,8,8,8,8,8,8,8,8,8,8,8,8,8,8,8,8,8,8,8,8,8,8,8,8,8,8,8,8,8,8,8,8,8,8,8,8,8,8,8,8,8,8,8,8,8] (IntKind.wrap .u8 x9)).bind fun (x11:UInt8)=>some (wr (n10+(IntKind.wrap .i64 (x11.toNat:Int))))
noncomputable def Yn (x6:Int) (n7:Int):Option (Int):=
 if decide (256≤x6) then (Ym (shr_ .u64 x6 8) (wr (n7+8))) else (Ym x6 n7)
noncomputable def Yo (x3:Int) (n4:Int):Option (Int):=
 if decide (65536≤x3) then (Yn (shr_ .u64 x3 16) (wr (n4+16))) else (Yn x3 n4)
noncomputable def z2z (x1:Int):Option (Int):=
 if decide (4294967296≤x1) then (Yo (shr_ .u64 x1 32) 32) else (Yo x1 0)
noncomputable def Qg (x1:Int):Option (Int):=
 if false then ((z22 (IntKind.wrap .u32 x1)).bind fun r3=>some r3) else ((z2z x1).bind fun r5=>some r5)
noncomputable def z0e (i4:Int) (data28:(List zc)):Option ((Int×(List zc)) ⊕ ((List zc))):=
 some (.inl (wr (i4+1),data28))
noncomputable def Yg (i4:Int) (j8:Int) (l9:(List zc)) (v20:Bool):Option ((Int×(List zc)) ⊕ ((Int×(List zc)) ⊕ ((List zc)))):=
 if v20 then ((at? l9 (wr (j8 - 1))).bind fun (x22:zc)=>(at? l9 j8).bind fun (x24:zc)=>(at? (l9.set j8.toNat x22) (wr (j8 - 1))).bind fun (x26:zc)=>some (.inl (wr (j8 - 1),((l9.set j8.toNat x22).set ((wr (j8 - 1)).toNat) x24)))) else (Option.map .inr (z0e i4 l9))
noncomputable def z19 (a2:Int) (p3:zc→zc→Option (Int)) (i4:Int) (j8:Int) (l9:(List zc)):Option ((Int×(List zc)) ⊕ ((Int×(List zc)) ⊕ ((List zc)))):=
 if decide (a2 < j8) then ((at? l9 j8).bind fun (x13:zc)=>(at? l9 (wr (j8 - 1))).bind fun (x15:zc)=>(p3 x13 x15).bind fun r17=>Yg i4 j8 l9 (decide (r17 < 0))) else (Yg i4 j8 l9 false)
noncomputable def z2a (a2:Int) (b3:Int) (p3:zc→zc→Option (Int)) (i4:Int) (l5:(List zc)):Option ((Int×(List zc)) ⊕ ((List zc))):=
 if decide (i4 < b3) then (iter (fun (s:Int×(List zc))=>z19 a2 p3 i4 s.1 s.2) (i4,l5)) else (some (.inr l5))
noncomputable def z2x (data1:(List zc)) (a2:Int) (b3:Int) (p3:zc→zc→Option (Int)):Option ((List zc)):=
 iter (fun (s:Int×(List zc))=>z2a a2 b3 p3 s.1 s.2) (wr (a2+1),data1)
noncomputable def z18 (v1:(List zc)) (p4:zc→zc→Option (Int)) (v5:Int) (v6:Int) (v7:Int) (v8:Bool) (v9:Bool):Option ((Int×Int×Int×Bool×Bool) ⊕ ((List zc))):=
 if decide ((wr (v6 - v5))≤12) then ((z2x v1 v5 v6 p4).bind fun r12=>if r12.length=v1.length then (some (.inr r12)) else none) else (if decide (v7=0) then none else none)
noncomputable def z0s (v1:(List zc)) (v2:Int) (v3:Int) (v4:Int) (p4:zc→zc→Option (Int)):Option ((List zc)):=
 iter (fun (s:Int×Int×Int×Bool×Bool)=>z18 v1 p4 s.1 s.2.1 s.2.2.1 s.2.2.2.1 s.2.2.2.2) (v2,v3,v4,true,true)
noncomputable def Qb (x1:(List zc)) (p1:zc→zc→Option (Int)):Option ((List zc)):=
 (Qg (IntKind.wrap .u64 (x1.length:Int))).bind fun r2=>(z0s x1 0 (x1.length:Int) r2 p1).bind fun r4=>if r4.length=x1.length then some r4 else none
noncomputable def kn (a1:zc) (b2:zc):Option (Int):=
 (z2w a1.Id b2.Id).bind fun r3=>some r3
noncomputable def ul (l1:(List zc)) (c2:yi) (v3:Int):Option ((List zc)×Int):=
 (wa l1).bind fun r4=>if decide (c2.To≤v3) then (some (r4,0)) else ((z0u r4 (fun (a0:zc)=>Zd a0 c2)).bind fun r7=>if decide (0≤r7) then ((at? r4 r7).bind fun (x10:zc)=>(at? (r4.set r7.toNat (zc.mk x10.Id (min x10.At v3) x10.Until)) r7).bind fun (x12:zc)=>some (((r4.set r7.toNat (zc.mk x10.Id (min x10.At v3) x10.Until)).set r7.toNat (zc.mk x12.Id x12.At (max x10.Until c2.To))),0)) else (if r4.length+1≤1000000000 then ((Qb (r4++[(zc.mk c2.Id v3 c2.To)]) (fun (a0:zc) (a1:zc)=>kn a0 a1)).bind fun r15=>if r15.length=(r4++[(zc.mk c2.Id v3 c2.To)]).length then (if decide (1000 < (r15.length:Int)) then (some ([],2)) else (some (r15,0))) else none) else none))
noncomputable def Qn (r1:zc) (c2:Int):Option (Bool):=
 some (decide (r1.Until≤c2))
noncomputable def ko (l1:(List zc)) (v2:Int):Option ((List zc)):=
 (wa l1).bind fun r3=>(Qd r3 (fun (a0:zc)=>Qn a0 v2)).bind fun r5=>some r5
noncomputable def z2i (s2:(List zc)) (k4:Nat) (x7:zc):Option (Unit ⊕ (Bool)):=
 (s2[k4]?).bind fun (x10:zc)=>if (!((x7.Id == x10.Id) && ((x7.At == x10.At) && ((x7.Until == x10.Until) && true)))) then (some (.inr false)) else (some (.inl ()))
noncomputable def z2j:Option (Bool):=
 some true
noncomputable def Qc (s1:(List zc)) (s2:(List zc)):Option (Bool):=
 if decide ((s1.length:Int)≠(s2.length:Int)) then some false else (if s1.length≤1000000000 then forL (fun (k:Nat) (x:zc) (s:Unit)=>z2i s2 k x) (fun (s:Unit)=>z2j) 0 s1 () else none)
noncomputable def z1t (x6:Int) (k11:Nat) (l10:(List Int)):Option ((List Int) ⊕ ((Bs×(List Int)) ⊕ (Bs))):=
 if (0:Int)≤(wr (18 - (wr (6 * (k11:Int))))) then ((at? [65,66,67,68,69,70,71,72,73,74,75,76,77,78,79,80,81,82,83,84,85,86,87,88,89,90,97,98,99,100,101,102,103,104,105,106,107,108,109,110,111,112,113,114,115,116,117,118,119,120,121,122,48,49,50,51,52,53,54,55,56,57,45,95] (and_ .i64 (shr_ .i64 x6 (wr (18 - (wr (6 * (k11:Int)))))) 63)).bind fun (x18:UInt8)=>if l10.length+1≤1000000000 then (some (.inl (l10++[(x18.toNat:Int)]))) else none) else none
noncomputable def z1w (s2:Bs) (l10:(List Int)):Option ((Bs×(List Int)) ⊕ (Bs)):=
 (sub? s2 (min 3 (s2.length:Int)) (s2.length:Int)).bind fun (l14:Bs)=>some (.inl (l14,l10))
noncomputable def Zx (x25:Int):Option (Int ⊕ ((Bs×(List Int)) ⊕ (Bs))):=
 some (.inl x25)
noncomputable def z1u (s2:Bs) (k7:Nat) (x6:Int):Option (Int ⊕ ((Bs×(List Int)) ⊕ (Bs))):=
 if decide ((k7:Int) < (min 3 (s2.length:Int))) then ((s2[k7]?).bind fun (x23:UInt8)=>Zx (or_ .i64 (shl_ .i64 x6 8) (IntKind.wrap .i64 (x23.toNat:Int)))) else (Zx (shl_ .i64 x6 8))
noncomputable def z1x (s2:Bs) (l3:(List Int)) (x6:Int):Option ((Bs×(List Int)) ⊕ (Bs)):=
 if (wr ((min 3 (s2.length:Int))+1))≤1000000000 then rng (fun (k:Nat) (s:(List Int))=>z1t x6 k s) (fun (s:(List Int))=>z1w s2 s) ((wr ((min 3 (s2.length:Int))+1)).toNat) 0 l3 else none
noncomputable def Wx (out26:(List Int)):Option (Bs):=
 some (strN out26)
noncomputable def z1v (s2:Bs) (l3:(List Int)):Option ((Bs×(List Int)) ⊕ (Bs)):=
 if decide (0 < (s2.length:Int)) then (if 3≤1000000000 then rng (fun (k:Nat) (s:Int)=>z1u s2 k s) (fun (s:Int)=>z1x s2 l3 s) 3 0 0 else none) else (Option.map .inr (Wx l3))
noncomputable def Yx (s1:Bs):Option (Bs):=
 iter (fun (s:Bs×(List Int))=>z1v s.1 s.2) (s1,[])
noncomputable def Qw  : Option (Bool):=
 (Yx [97,98]).bind fun r1=>some (decide (r1=[89,87,73]))
noncomputable def jr (v54:Bool):Option (Bool):=
 some v54
noncomputable def xb (r8:((List zc)×Int)) (r10:((List zc)×Int)) (r25:(Int)) (v30:Int) (v31:(List zc)) (v35:(List zc)):Option (Bool):=
 if decide (r8.2=v30) then ((Qc r8.1 v31).bind fun r38=>if r38 then (if decide (r10.2=r25) then ((Qc r10.1 v35).bind fun r44=>if r44 then ((Qw ).bind fun r48=>jr r48) else (jr false)) else (jr false)) else (jr false)) else (jr false)
noncomputable def xc (r2:((List zc)×zm)) (r6:(Int×zm)) (r8:((List zc)×Int)) (r10:((List zc)×Int)) (r25:(Int)) (v30:Int) (v31:(List zc)):Option (Bool):=
 if decide (r25=0) then ((ko r2.1 r6.1).bind fun r33=>xb r8 r10 r25 v30 v31 r33) else (xb r8 r10 r25 v30 v31 [])
noncomputable def z0y (v1:(List Int)):Option (Bool):=
 (Qt (zm.mk v1 0)).bind fun r2=>(Qv r2.2).bind fun r4=>(Qu r4.2).bind fun r6=>(uh r2.1 r4.1 r6.1).bind fun r8=>(xy r2.1 r6.1).bind fun r10=>(Zc r2.1).bind fun r12=>(kj r2.1).bind fun r14=>if decide (r14≠r12) then some false else ((Qp r4.1).bind fun r17=>(un r6.1).bind fun r19=>(kt [r12,r17,r19]).bind fun r21=>(un r6.1).bind fun r23=>(kt [r12,r23]).bind fun r25=>if decide (r21=0) then ((ul r2.1 r4.1 r6.1).bind fun r28=>xc r2 r6 r8 r10 r25 r28.2 r28.1) else (xc r2 r6 r8 r10 r25 r21 []))
/- models of functions that this seat does not reach: for the plain texts alone -/
structure z32 where
 Id:Bs
 Secret:Bs
 From:Int
 To:Int
 Until:Int
structure xh where
 App:Bs
 Sum:Bs
 Scopes:(List Bs)
 From:Int
 To:Int
structure y5e where
 Issuer:Bs
 Audience:Bs
 Signers:(List z32)
 Revoked:(List zc)
 Holders:(List xh)
 Skew:Int
structure y5f where
 Name:Bs
 Value:Bs
structure y5l where
 At:Int
 Method:Bs
 Host:Bs
 Path:Bs
 Query:Bs
 From:Bs
 Headers:(List y5f)
 Body:Bs
structure y5m where
 By:Int
 Name:Bs
 Scopes:(List Bs)
structure y5k where
 lines_:(List Bs)
 ended_:Bool
 at_:Int
 bad_:Bool
noncomputable def z55 (s1:zm):Option (Bs×zm):=
 (ui [115] 101).bind fun r2=>(wb s1 ([[111,110,101],[116,119,111],[116,104,114,101,101],[107,33],[111,110,101],[],[97,32,98],[127],r2])).bind fun r4=>some (r4.1,r4.2)
end Go.Proofs.YtbndlmnjeofkdabGreatDoor
