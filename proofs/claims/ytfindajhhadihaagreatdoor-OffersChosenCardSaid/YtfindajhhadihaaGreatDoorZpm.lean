/- Plain models of functions. Printed by a program. -/
import Derived.Test.YtfindajhhadihaaGreatDoorMc
namespace Go.Proofs.YtfindajhhadihaaGreatDoor
set_option linter.unusedVariables false
set_option maxRecDepth 20000
structure ya where
 L:(List Int)
 at_:Int
structure yg where
 Name:Bs
 Value:Bs
structure zj where
 Words:Bs
 Params:(List yg)
 Quality:Int
structure zk where
 s_:Bs
 i_:Int
 bad_:Bool
structure zx where
 s_:Bs
noncomputable def Wj (x6:Int):Option (Int):=
 some x6
noncomputable def Zd (x1:Int) (n2:Int):Option (Int):=
 if decide (n2 < 1) then some 0 else (if n2≠0 then (if decide ((Int.tmod x1 n2) < 0) then (Wj (wr ((Int.tmod x1 n2)+n2))) else (Wj (Int.tmod x1 n2))) else none)
noncomputable def jp (s1:ya) (n2:Int):Option (Int×ya):=
 if decide ((s1.L.length:Int)=0) then ((Zd (wr ((wr (s1.at_+1)) * 7919)) n2).bind fun r4=>some (r4,(ya.mk s1.L (wr (s1.at_+1))))) else (if (s1.L.length:Int)≠0 then (if ((0:Int)≤(wr ((wr (s1.at_+1)) - 1))∧(wr ((wr (s1.at_+1)) - 1))≤9223372036854775807)∧(0:Int) < (s1.L.length:Int) then ((at? s1.L (Int.tmod (wr ((wr (s1.at_+1)) - 1)) (s1.L.length:Int))).bind fun (x8:Int)=>(Zd x8 1073741824).bind fun r10=>(Zd (wr (r10+(wr (((wr ((wr (s1.at_+1)) - 1)) / (s1.L.length:Int)) * (wr (7919+(Int.tmod (wr ((wr (s1.at_+1)) - 1)) (s1.L.length:Int)))))))) n2).bind fun r12=>some (r12,(ya.mk s1.L (wr (s1.at_+1))))) else none) else none)
noncomputable def Qh (s1:ya) (low2:Int) (high3:Int):Option (Int×ya):=
 if decide (high3 < low2) then (some (low2,s1)) else ((jp s1 (wr ((wr (high3 - low2))+1))).bind fun r5=>some (wr (low2+r5.1),r5.2))
noncomputable def jg (s1:ya) (l2:(List Bs)):Option (Bs×ya):=
 (jp s1 (l2.length:Int)).bind fun r3=>(at? l2 r3.1).bind fun (x5:Bs)=>some (x5,r3.2)
noncomputable def z3j (l4:(List Bs)) (k8:Nat) (c5:(List Int)) (c6:Int) (l7:(List Bs)):Option (((List Int)×Int×(List Bs)) ⊕ (Bs×ya)):=
 (jg (ya.mk c5 c6) l4).bind fun r14=>if l7.length+1≤1000000000 then (some (.inl (r14.2.L,r14.2.at_,(l7++[r14.1])))) else none
noncomputable def z3k (between3:Bs) (c5:(List Int)) (c6:Int) (l7:(List Bs)):Option (Bs×ya):=
 (xr l7 between3).bind fun r11=>some (r11,(ya.mk c5 c6))
noncomputable def z0y (s1:ya) (many2:Int) (between3:Bs) (l4:(List Bs)):Option (Bs×ya):=
 if many2≤1000000000 then rng (fun (k:Nat) (s:(List Int)×Int×(List Bs))=>z3j l4 k s.1 s.2.1 s.2.2) (fun (s:(List Int)×Int×(List Bs))=>z3k between3 s.1 s.2.1 s.2.2) many2.toNat 0 (s1.L,s1.at_,[]) else none
noncomputable def Qj (s1:ya) (n2:Int):Option (Bool×ya):=
 (jp s1 n2).bind fun r3=>some (decide (r3.1=0),r3.2)
noncomputable def z0z (s1:ya) (l2:(List Int)):Option (Int×ya):=
 (jp s1 (l2.length:Int)).bind fun r3=>(at? l2 r3.1).bind fun (x5:Int)=>some (x5,r3.2)
noncomputable def z01 (s1:ya) (t2:Bs) (v3:Bs):Option (Bs×ya):=
 if ((decide (t2=[])) || (decide (v3=[]))) then (some (v3,s1)) else ((jp s1 (t2.length:Int)).bind fun r5=>(jp r5.2 (v3.length:Int)).bind fun r7=>(at? v3 r7.1).bind fun (x9:UInt8)=>(jp r7.2 3).bind fun r11=>if decide (r11.1=0) then ((sub? t2 0 r5.1).bind fun (l14:Bs)=>if l14.length+(encL (IntKind.wrap .i32 (x9.toNat:Int))).length≤1000000000 then ((sub? t2 (wr (r5.1+1)) (t2.length:Int)).bind fun (l17:Bs)=>if (l14++(encL (IntKind.wrap .i32 (x9.toNat:Int)))).length+l17.length≤1000000000 then (some (((l14++(encL (IntKind.wrap .i32 (x9.toNat:Int))))++l17),r11.2)) else none) else none) else (if decide (r11.1=1) then ((sub? t2 0 r5.1).bind fun (l21:Bs)=>if l21.length+(encL (IntKind.wrap .i32 (x9.toNat:Int))).length≤1000000000 then ((sub? t2 r5.1 (t2.length:Int)).bind fun (l24:Bs)=>if (l21++(encL (IntKind.wrap .i32 (x9.toNat:Int)))).length+l24.length≤1000000000 then (some (((l21++(encL (IntKind.wrap .i32 (x9.toNat:Int))))++l24),r11.2)) else none) else none) else ((sub? t2 0 r5.1).bind fun (l27:Bs)=>(sub? t2 (wr (r5.1+1)) (t2.length:Int)).bind fun (l29:Bs)=>if l27.length+l29.length≤1000000000 then (some ((l27++l29),r11.2)) else none)))
noncomputable def z3n (k21:Nat) (t18:Bs) (c19:(List Int)) (c20:Int):Option ((Bs×(List Int)×Int) ⊕ (Bs×ya)):=
 (z01 (ya.mk c19 c20) t18 [44,59,61,113,48,46,34,92,47,32]).bind fun r25=>some (.inl (r25.1,r25.2.L,r25.2.at_))
noncomputable def z3o (t18:Bs) (c19:(List Int)) (c20:Int):Option (Bs×ya):=
 some (t18,(ya.mk c19 c20))
noncomputable def Zu (t13:Bs) (c14:(List Int)) (c15:Int):Option (Bs×ya):=
 (z0z (ya.mk c14 c15) [0,0,0,1,2]).bind fun r16=>if r16.1≤1000000000 then rng (fun (k:Nat) (s:Bs×(List Int)×Int)=>z3n k s.1 s.2.1 s.2.2) (fun (s:Bs×(List Int)×Int)=>z3o s.1 s.2.1 s.2.2) r16.1.toNat 0 (t13,r16.2.L,r16.2.at_) else none
noncomputable def z00 (s1:ya):Option (Bs×ya):=
 (Qh s1 0 4).bind fun r2=>(jg r2.2 ([[44],[44,32],[32,44,32]])).bind fun r4=>(z0y r4.2 r2.1 r4.1 ([[116,101,120,116,47,104,116,109,108],[116,101,120,116,47,42],[42,47,42],[100,101],[42],[97,59,113,61,48,46,53],[116,101,120,116,47,104,116,109,108,59,113,61,48,46,50,53],[98,59,120,61,49],[99,59,121,61,34,113,92,34,114,34],[100,101,59,32,81,61,48],[101,59,113,61,49,46,48,48,48],[],[105,109,97,103,101,47,112,110,103,59,113,61,48,46,48,48,49],[102,59,120,61,34,34,59,113,61,48]])).bind fun r6=>(Qj r6.2 8).bind fun r8=>if r8.1 then ((jg r8.2 ([[97,59,113,61,50],[97,59,113,61,48,46,49,50,51,52],[97,59,113,61,49,59,113,61,49],[97,32,98],[97,59],[97,59,98],[97,59,98,61],[97,47,98,47,99],[97,59,120,61,34,121],[97,59,120,61,34,92,122,34],[47,97],[97,59,113,61,46,53],[32,97],[97,59,113,61,49,46,49]])).bind fun r11=>Zu r11.1 r11.2.L r11.2.at_) else (Zu r6.1 r8.2.L r8.2.at_)
noncomputable def Wi (out17:(List Bs)) (c18:(List Int)) (c19:Int):Option ((List Bs)×ya):=
 some (out17,(ya.mk c18 c19))
noncomputable def Wh (out28:(List Bs)) (c29:(List Int)) (c30:Int):Option (((List Int)×Int×(List Bs)) ⊕ ((List Bs)×ya)):=
 some (.inl (c29,c30,out28))
noncomputable def z3l (types2:Bool) (k8:Nat) (c5:(List Int)) (c6:Int) (l7:(List Bs)):Option (((List Int)×Int×(List Bs)) ⊕ ((List Bs)×ya)):=
 if types2 then ((jg (ya.mk c5 c6) ([[116,101,120,116,47,104,116,109,108],[116,101,120,116,47,112,108,97,105,110],[105,109,97,103,101,47,112,110,103],[84,69,88,84,47,72,84,77,76]])).bind fun r22=>if l7.length+1≤1000000000 then (Wh (l7++[r22.1]) r22.2.L r22.2.at_) else none) else ((jg (ya.mk c5 c6) ([[100,101],[101,110],[97],[68,69],[101]])).bind fun r25=>if l7.length+1≤1000000000 then (Wh (l7++[r25.1]) r25.2.L r25.2.at_) else none)
noncomputable def z3m (c5:(List Int)) (c6:Int) (l7:(List Bs)):Option ((List Bs)×ya):=
 (Qj (ya.mk c5 c6) 12).bind fun r11=>if r11.1 then ((jg r11.2 ([[],[97],[97,47,98],[42],[42,47,42],[97,32,98]])).bind fun r14=>if l7.length+1≤1000000000 then (Wi (l7++[r14.1]) r14.2.L r14.2.at_) else none) else (Wi l7 r11.2.L r11.2.at_)
noncomputable def Qi (s1:ya) (types2:Bool):Option ((List Bs)×ya):=
 (Qh s1 0 4).bind fun r3=>if r3.1≤1000000000 then rng (fun (k:Nat) (s:(List Int)×Int×(List Bs))=>z3l types2 k s.1 s.2.1 s.2.2) (fun (s:(List Int)×Int×(List Bs))=>z3m s.1 s.2.1 s.2.2) r3.1.toNat 0 (r3.2.L,r3.2.at_,[]) else none
noncomputable def Yq (v13:Bool):Option (Unit ⊕ (Bool)):=
 if v13 then (some (.inr false)) else (some (.inl ()))
noncomputable def z2d (low2:Int) (high3:Int) (k4:Nat) (x7:UInt8):Option (Unit ⊕ (Bool)):=
 if decide ((x7.toNat:Int) < low2) then (Yq true) else (Yq (decide (high3 < (x7.toNat:Int))))
noncomputable def z2e:Option (Bool):=
 some true
noncomputable def Qe (s1:Bs) (low2:Int) (high3:Int):Option (Bool):=
 if s1.length≤1000000000 then forL (fun (k:Nat) (x:UInt8) (s:Unit)=>z2d low2 high3 k x) (fun (s:Unit)=>z2e) 0 s1 () else none
noncomputable def Wy (s14:Bs):Option (Bs):=
 some s14
noncomputable def uy (s3:Bs) (v10:Bool):Option (Bs ⊕ (Bs)):=
 if v10 then ((sub? s3 0 (wr ((s3.length:Int) - 1))).bind fun (l12:Bs)=>some (.inl l12)) else (Option.map .inr (Wy s3))
noncomputable def Wx (c2:Int) (s3:Bs):Option (Bs ⊕ (Bs)):=
 if decide (0 < (s3.length:Int)) then ((at? s3 (wr ((s3.length:Int) - 1))).bind fun (x7:UInt8)=>uy s3 (decide ((x7.toNat:Int)=c2))) else (uy s3 false)
noncomputable def ua (s1:Bs) (c2:Int):Option (Bs):=
 iter (fun (s:Bs)=>Wx c2 s) s1
noncomputable def z0a (s14:Bs):Option (Bs):=
 some s14
noncomputable def uz (s3:Bs) (v10:Bool):Option (Bs ⊕ (Bs)):=
 if v10 then ((sub? s3 1 (s3.length:Int)).bind fun (l12:Bs)=>some (.inl l12)) else (Option.map .inr (z0a s3))
noncomputable def Wz (c2:Int) (s3:Bs):Option (Bs ⊕ (Bs)):=
 if decide (0 < (s3.length:Int)) then ((s3[0]?).bind fun (x7:UInt8)=>uz s3 (decide ((x7.toNat:Int)=c2))) else (uz s3 false)
noncomputable def ub (s1:Bs) (c2:Int):Option (Bs):=
 iter (fun (s:Bs)=>Wz c2 s) s1
noncomputable def Yg (s1:Bs) (cutset2:Bs) (v9:Bool):Option (Bs):=
 if v9 then ((cutset2[0]?).bind fun (x11:UInt8)=>(ua s1 (x11.toNat:Int)).bind fun r13=>(ub r13 (x11.toNat:Int)).bind fun r15=>some r15) else none
noncomputable def Yz (s1:Bs) (cutset2:Bs):Option (Bs):=
 if ((decide (s1=[])) || (decide (cutset2=[]))) then some s1 else (if decide ((cutset2.length:Int)=1) then ((cutset2[0]?).bind fun (x6:UInt8)=>Yg s1 cutset2 (decide ((x6.toNat:Int) < 128))) else (Yg s1 cutset2 false))
noncomputable def xp (v12:Bool):Option (Bool):=
 some v12
noncomputable def Qf (s1:Bs):Option (Bool):=
 if decide ((s1.length:Int)≤2000) then ((Qe s1 32 126).bind fun r4=>if r4 then ((Yz s1 [32]).bind fun r8=>xp (decide (r8=s1))) else (xp false)) else (xp false)
noncomputable def xh (s1:zk) (c2:Int) (v9:Bool):Option (Int ⊕ (zk)):=
 if v9 then (some (.inl (wr (c2+1)))) else (some (.inr (zk.mk s1.s_ c2 s1.bad_)))
noncomputable def jo (s1:zk) (c2:Int):Option (Int ⊕ (zk)):=
 if decide (c2 < (s1.s_.length:Int)) then ((at? s1.s_ c2).bind fun (x6:UInt8)=>xh s1 c2 (decide ((x6.toNat:Int)=32))) else (xh s1 c2 false)
noncomputable def ue (s1:zk):Option (zk):=
 iter (fun (s:Int)=>jo s1 s) s1.i_
noncomputable def Yn (s1:zk) (v8:Bool):Option (Bool×zk):=
 if v8 then (some (true,(zk.mk s1.s_ (wr (s1.i_+1)) s1.bad_))) else (some (false,s1))
noncomputable def kb (s1:zk) (c2:Int):Option (Bool×zk):=
 if decide (s1.i_ < (s1.s_.length:Int)) then ((at? s1.s_ s1.i_).bind fun (x5:UInt8)=>Yn s1 (decide ((x5.toNat:Int)=c2))) else (Yn s1 false)
noncomputable def z2p (c1:Int):Option (Bool):=
 some (((decide (97≤c1)) && (decide (c1≤122))) || ((decide (65≤c1)) && (decide (c1≤90))))
noncomputable def z0p (c1:Int):Option (Bool):=
 some ((decide (48≤c1)) && (decide (c1≤57)))
noncomputable def Yp (v14:Bool):Option (Bool):=
 some v14
noncomputable def Qd (c1:Int):Option (Bool):=
 (z2p c1).bind fun r2=>if r2 then (Yp true) else ((z0p c1).bind fun r6=>if r6 then (Yp true) else ((z0l [33,35,36,37,38,39,42,43,45,46,94,95,96,124,126] c1).bind fun r10=>Yp (decide (0≤r10))))
noncomputable def z2i (k2:Nat) (x5:UInt8):Option (Unit ⊕ (Bool)):=
 (Qd (x5.toNat:Int)).bind fun r8=>if !r8 then (some (.inr false)) else (some (.inl ()))
noncomputable def z4y (s1:Bs):Option (Bool):=
 some ((decide (s1≠[])) && (decide ((s1.length:Int)≤100)))
noncomputable def xz (s1:Bs):Option (Bool):=
 if s1.length≤1000000000 then forL (fun (k:Nat) (x:UInt8) (s:Unit)=>z2i k x) (fun (s:Unit)=>z4y s1) 0 s1 () else none
noncomputable def Yl (s1:zk) (c13:Int) (l14:Bs) (c21:Bool):Option (Bs×zk):=
 some (l14,(zk.mk s1.s_ c13 c21))
noncomputable def kv (s1:zk) (c13:Int):Option (Bs×zk):=
 (sub? s1.s_ s1.i_ c13).bind fun (l14:Bs)=>if s1.bad_ then (Yl s1 c13 l14 true) else ((xz l14).bind fun r18=>Yl s1 c13 l14 (!r18))
noncomputable def xg (s1:zk) (c2:Int) (v11:Bool):Option (Int ⊕ (Bs×zk)):=
 if v11 then (some (.inl (wr (c2+1)))) else (Option.map .inr (kv s1 c2))
noncomputable def jn (s1:zk) (c2:Int):Option (Int ⊕ (Bs×zk)):=
 if decide (c2 < (s1.s_.length:Int)) then ((at? s1.s_ c2).bind fun (x6:UInt8)=>(Qd (x6.toNat:Int)).bind fun r8=>xg s1 c2 r8) else (xg s1 c2 false)
noncomputable def xx (s1:zk):Option (Bs×zk):=
 iter (fun (s:Int)=>jn s1 s) s1.i_
noncomputable def kx (s1:zk) (c25:Int):Option (Bs×zk):=
 some ([],(zk.mk s1.s_ c25 true))
noncomputable def xi (l3:(List Int)) (v22:Int) (c23:Int):Option ((Int×(List Int)) ⊕ (Bs×zk)):=
 if l3.length+1≤1000000000 then (some (.inl (c23,(l3++[v22])))) else none
noncomputable def kw (s1:zk) (c2:Int) (l3:(List Int)) (v18:Bool):Option ((Int×(List Int)) ⊕ (Bs×zk)):=
 if v18 then (Option.map .inr (kx s1 (wr (c2+1)))) else ((at? s1.s_ (wr (c2+1))).bind fun (x20:UInt8)=>xi l3 (x20.toNat:Int) (wr ((wr (c2+1))+1)))
noncomputable def wl (s1:zk) (c2:Int) (l3:(List Int)):Option ((Int×(List Int)) ⊕ (Bs×zk)):=
 if decide (c2 < (s1.s_.length:Int)) then ((at? s1.s_ c2).bind fun (x6:UInt8)=>if decide ((x6.toNat:Int)=34) then (some (.inr ((strN l3),(zk.mk s1.s_ (wr (c2+1)) s1.bad_)))) else (if decide ((x6.toNat:Int)=92) then (if decide ((wr (c2+1))=(s1.s_.length:Int)) then (kw s1 c2 l3 true) else ((at? s1.s_ (wr (c2+1))).bind fun (x12:UInt8)=>if decide ((x12.toNat:Int)≠34) then (kw s1 c2 l3 (decide ((x12.toNat:Int)≠92))) else (kw s1 c2 l3 false))) else (xi l3 (x6.toNat:Int) (wr (c2+1))))) else (Option.map .inr (kx s1 c2))
noncomputable def z2n (s1:zk):Option (Bs×zk):=
 iter (fun (s:Int×(List Int))=>wl s1 s.1 s.2) (s1.i_,[])
noncomputable def z2o (name1:Bs):Option (Bool):=
 some ((decide (name1=[113])) || (decide (name1=[81])))
noncomputable def ww (c1:Int):Option (Int):=
 some (or_ .u8 c1 32)
noncomputable def Qp (v47:Int) (v85:Int):Option ((Int×Int) ⊕ (Bool)):=
 some (.inl (v85,wr (v47+1)))
noncomputable def kc (v14:Bs) (v46:Int) (v47:Int) (v78:Bool):Option ((Int×Int) ⊕ (Bool)):=
 if v78 then (Qp v47 48) else ((at? v14 v47).bind fun (x80:UInt8)=>if decide ((x80.toNat:Int)=95) then (if decide (v46≠48) then (some (.inr false)) else (Qp v47 95)) else (if decide (v46=95) then (some (.inr false)) else (Qp v47 33)))
noncomputable def z3d (v86:Int):Option (Bool):=
 some (decide (v86≠95))
noncomputable def z5s (v14:Bs) (v45:Bool) (v46:Int) (v47:Int):Option ((Int×Int) ⊕ (Bool)):=
 if decide (v47 < (v14.length:Int)) then ((at? v14 v47).bind fun (x50:UInt8)=>if decide (48≤(x50.toNat:Int)) then (if decide ((x50.toNat:Int)≤57) then (kc v14 v46 v47 true) else (if v45 then ((ww (x50.toNat:Int)).bind fun r58=>if decide (97≤r58) then ((ww (x50.toNat:Int)).bind fun r62=>kc v14 v46 v47 (decide (r62≤102))) else (kc v14 v46 v47 false)) else (kc v14 v46 v47 false))) else (if v45 then ((ww (x50.toNat:Int)).bind fun r70=>if decide (97≤r70) then ((ww (x50.toNat:Int)).bind fun r74=>kc v14 v46 v47 (decide (r74≤102))) else (kc v14 v46 v47 false)) else (kc v14 v46 v47 false))) else (Option.map .inr (z3d v46))
noncomputable def z06 (v14:Bs) (v43:Int) (v44:Int) (v45:Bool):Option (Bool):=
 iter (fun (s:Int×Int)=>z5s v14 v45 s.1 s.2) (v43,v44)
noncomputable def uj (v14:Bs) (v37:Bool):Option (Bool):=
 if v37 then ((v14[1]?).bind fun (x39:UInt8)=>(ww (x39.toNat:Int)).bind fun r41=>z06 v14 48 2 (decide (r41=120))) else (z06 v14 94 0 false)
noncomputable def z07 (v14:Bs):Option (Bool):=
 if decide (2≤(v14.length:Int)) then ((v14[0]?).bind fun (x17:UInt8)=>if decide ((x17.toNat:Int)=48) then ((v14[1]?).bind fun (x21:UInt8)=>(ww (x21.toNat:Int)).bind fun r23=>if decide (r23=98) then (uj v14 true) else ((ww (x21.toNat:Int)).bind fun r27=>if decide (r27=111) then (uj v14 true) else ((ww (x21.toNat:Int)).bind fun r31=>uj v14 (decide (r31=120))))) else (uj v14 false)) else (uj v14 false)
noncomputable def Qq (v1:Bs) (v10:Bool):Option (Bool):=
 if v10 then ((sub? v1 1 (v1.length:Int)).bind fun (l12:Bs)=>z07 l12) else (z07 v1)
noncomputable def z5c (v1:Bs):Option (Bool):=
 if decide (1≤(v1.length:Int)) then ((v1[0]?).bind fun (x4:UInt8)=>if decide ((x4.toNat:Int)=45) then (Qq v1 true) else (Qq v1 (decide ((x4.toNat:Int)=43)))) else (Qq v1 false)
noncomputable def z08 (v87:Bool) (v88:Int):Option ((Bool×Int) ⊕ (Int×Int)):=
 some (.inl (v87,v88))
noncomputable def z1f (v46:Int) (v49:Int) (v53:Int) (v55:Bool) (v56:Int) (v83:Int):Option ((Bool×Int) ⊕ (Int×Int)):=
 if decide ((IntKind.wrap .u8 v46)≤v83) then (some (.inr (0,2))) else (if decide (v53≤v56) then (some (.inr (IntKind.wrap .u64 ((shl_ .u64 1 (IntKind.wrap .u64 v49)) - 1),1))) else (if ((decide ((IntKind.wrap .u64 ((IntKind.wrap .u64 (v56 * (IntKind.wrap .u64 v46)))+(IntKind.wrap .u64 v83))) < (IntKind.wrap .u64 (v56 * (IntKind.wrap .u64 v46))))) || (decide ((IntKind.wrap .u64 ((shl_ .u64 1 (IntKind.wrap .u64 v49)) - 1)) < (IntKind.wrap .u64 ((IntKind.wrap .u64 (v56 * (IntKind.wrap .u64 v46)))+(IntKind.wrap .u64 v83)))))) then (some (.inr (IntKind.wrap .u64 ((shl_ .u64 1 (IntKind.wrap .u64 v49)) - 1),1))) else (z08 v55 (IntKind.wrap .u64 ((IntKind.wrap .u64 (v56 * (IntKind.wrap .u64 v46)))+(IntKind.wrap .u64 v83))))))
noncomputable def z1e (v46:Int) (v49:Int) (v53:Int) (v55:Bool) (v56:Int) (x60:Int) (v79:Bool):Option ((Bool×Int) ⊕ (Int×Int)):=
 if v79 then ((ww x60).bind fun r81=>z1f v46 v49 v53 v55 v56 (IntKind.wrap .u8 ((IntKind.wrap .u8 (r81 - 97))+10))) else (some (.inr (0,2)))
noncomputable def z5t (v2:Int) (v46:Int) (v49:Int) (v53:Int) (k57:Nat) (x60:Int) (v55:Bool) (v56:Int):Option ((Bool×Int) ⊕ (Int×Int)):=
 if ((decide (x60=95)) && (decide (v2=0))) then (z08 true v56) else (if ((decide (48≤x60)) && (decide (x60≤57))) then (z1f v46 v49 v53 v55 v56 (IntKind.wrap .u8 (x60 - 48))) else ((ww x60).bind fun r72=>if decide (97≤r72) then ((ww x60).bind fun r76=>z1e v46 v49 v53 v55 v56 x60 (decide (r76≤122))) else (z1e v46 v49 v53 v55 v56 x60 false)))
noncomputable def z09 (v56:Int) (v66:Bool):Option (Int×Int):=
 if v66 then (some (0,2)) else (some (v56,0))
noncomputable def z5u (v1:Bs) (v55:Bool) (v56:Int):Option (Int×Int):=
 if v55 then ((z5c v1).bind fun r63=>z09 v56 (!r63)) else (z09 v56 false)
noncomputable def Qr (v1:Bs) (v2:Int) (v45:Bs) (v46:Int) (v49:Int) (v53:Int):Option (Int×Int):=
 if (0:Int)≤(IntKind.wrap .u64 v49) then (if (yi v45).length≤1000000000 then forL (fun (k:Nat) (x:Int) (s:Bool×Int)=>z5t v2 v46 v49 v53 k x s.1 s.2) (fun (s:Bool×Int)=>z5u v1 s.1 s.2) 0 (yi v45) (false,0) else none) else none
noncomputable def z1a (v1:Bs) (v2:Int) (v45:Bs) (v46:Int) (v49:Int):Option (Int×Int):=
 if decide (v46=10) then (Qr v1 v2 v45 v46 v49 1844674407370955162) else (if decide (v46=16) then (Qr v1 v2 v45 v46 v49 1152921504606846976) else (if (IntKind.wrap .u64 v46)≠0 then (Qr v1 v2 v45 v46 v49 (IntKind.wrap .u64 ((IntKind.wrap .u64 (Int.tdiv 18446744073709551615 (IntKind.wrap .u64 v46)))+1))) else none))
noncomputable def kq (v1:Bs) (v2:Int) (v3:Int) (v45:Bs) (v46:Int):Option (Int×Int):=
 if decide (v3=0) then (z1a v1 v2 v45 v46 64) else (if ((decide (v3 < 0)) || (decide (64 < v3))) then (some (0,4)) else (z1a v1 v2 v45 v46 v3))
noncomputable def z1b (v1:Bs) (v2:Int) (v3:Int) (v39:Bool):Option (Int×Int):=
 if v39 then ((sub? v1 2 (v1.length:Int)).bind fun (l41:Bs)=>kq v1 v2 v3 l41 16) else ((sub? v1 1 (v1.length:Int)).bind fun (l43:Bs)=>kq v1 v2 v3 l43 8)
noncomputable def z1c (v1:Bs) (v2:Int) (v3:Int) (v28:Bool):Option (Int×Int):=
 if v28 then ((sub? v1 2 (v1.length:Int)).bind fun (l30:Bs)=>kq v1 v2 v3 l30 8) else (if decide (3≤(v1.length:Int)) then ((v1[1]?).bind fun (x34:UInt8)=>(ww (x34.toNat:Int)).bind fun r36=>z1b v1 v2 v3 (decide (r36=120))) else (z1b v1 v2 v3 false))
noncomputable def z1d (v1:Bs) (v2:Int) (v3:Int) (v17:Bool):Option (Int×Int):=
 if v17 then ((sub? v1 2 (v1.length:Int)).bind fun (l19:Bs)=>kq v1 v2 v3 l19 2) else (if decide (3≤(v1.length:Int)) then ((v1[1]?).bind fun (x23:UInt8)=>(ww (x23.toNat:Int)).bind fun r25=>z1c v1 v2 v3 (decide (r25=111))) else (z1c v1 v2 v3 false))
noncomputable def z2w (v1:Bs) (v2:Int) (v3:Int):Option (Int×Int):=
 if decide (v1=[]) then (some (0,2)) else (if ((decide (2≤v2)) && (decide (v2≤36))) then (kq v1 v2 v3 v1 v2) else (if decide (v2=0) then ((v1[0]?).bind fun (x7:UInt8)=>if decide ((x7.toNat:Int)=48) then (if decide (3≤(v1.length:Int)) then ((v1[1]?).bind fun (x12:UInt8)=>(ww (x12.toNat:Int)).bind fun r14=>z1d v1 v2 v3 (decide (r14=98))) else (z1d v1 v2 v3 false)) else (kq v1 v2 v3 v1 10)) else (some (0,3))))
noncomputable def z1g (v29:Int):Option (Int×Int):=
 some (v29,0)
noncomputable def z1h (v14:Bool) (r15:(Int×Int)) (v24:Int):Option (Int×Int):=
 if (0:Int)≤(IntKind.wrap .u64 (wr (v24 - 1))) then (if ((!v14) && (decide ((shl_ .u64 1 (IntKind.wrap .u64 (wr (v24 - 1))))≤r15.1))) then (some (IntKind.wrap .i64 (IntKind.wrap .u64 ((shl_ .u64 1 (IntKind.wrap .u64 (wr (v24 - 1)))) - 1)),1)) else (if (v14 && (decide ((shl_ .u64 1 (IntKind.wrap .u64 (wr (v24 - 1)))) < r15.1))) then (some ((wr (-(IntKind.wrap .i64 (shl_ .u64 1 (IntKind.wrap .u64 (wr (v24 - 1))))))),1)) else (if v14 then (z1g (wr (-(IntKind.wrap .i64 r15.1)))) else (z1g (IntKind.wrap .i64 r15.1))))) else none
noncomputable def z1i (v3:Int) (v14:Bool) (r15:(Int×Int)) (v21:Bool):Option (Int×Int):=
 if v21 then (some (0,r15.2)) else (if decide (v3=0) then (z1h v14 r15 64) else (z1h v14 r15 v3))
noncomputable def Qs (v2:Int) (v3:Int) (v13:Bs) (v14:Bool):Option (Int×Int):=
 (z2w v13 v2 v3).bind fun r15=>if decide (r15.2≠0) then (if (0:Int)≤r15.2∧r15.2≤(4:Int) then (z1i v3 v14 r15 (decide (r15.2≠1))) else none) else (z1i v3 v14 r15 false)
noncomputable def z5d (v1:Bs) (v2:Int) (v3:Int):Option (Int×Int):=
 if decide (v1=[]) then (some (0,2)) else ((v1[0]?).bind fun (x5:UInt8)=>if decide ((x5.toNat:Int)=43) then ((sub? v1 1 (v1.length:Int)).bind fun (l8:Bs)=>Qs v2 v3 l8 false) else (if decide ((x5.toNat:Int)=45) then ((sub? v1 1 (v1.length:Int)).bind fun (l11:Bs)=>Qs v2 v3 l11 true) else (Qs v2 v3 v1 false)))
noncomputable def Qt (k15:Nat) (x18:Int) (v14:Int):Option (Int ⊕ (Int×Int)):=
 if decide (9 < (IntKind.wrap .u8 (x18 - 48))) then (some (.inr (0,2))) else (some (.inl (wr ((wr (v14 * 10))+(IntKind.wrap .i64 (IntKind.wrap .u8 (x18 - 48)))))))
noncomputable def Zh (v23:Int):Option (Int×Int):=
 some (v23,0)
noncomputable def Zk (v1:Bs) (v14:Int):Option (Int×Int):=
 (v1[0]?).bind fun (x19:UInt8)=>if decide ((x19.toNat:Int)=45) then (if -9223372036854775807≤v14∧v14≤9223372036854775807 then (Zh (-v14)) else none) else (Zh v14)
noncomputable def Zj (v1:Bs) (v13:Bs):Option (Int×Int):=
 if (yi v13).length≤1000000000 then forL (fun (k:Nat) (x:Int) (s:Int)=>Qt k x s) (fun (s:Int)=>Zk v1 s) 0 (yi v13) 0 else none
noncomputable def Zi (v1:Bs) (v8:Bool):Option (Int×Int):=
 if v8 then ((sub? v1 1 (v1.length:Int)).bind fun (l10:Bs)=>if decide ((l10.length:Int) < 1) then (some (0,2)) else (Zj v1 l10)) else (Zj v1 v1)
noncomputable def Za (v1:Bs):Option (Int×Int):=
 if ((false && ((decide (0 < (v1.length:Int))) && (decide ((v1.length:Int) < 10)))) || (true && ((decide (0 < (v1.length:Int))) && (decide ((v1.length:Int) < 19))))) then ((v1[0]?).bind fun (x3:UInt8)=>if decide ((x3.toNat:Int)=45) then (Zi v1 true) else (Zi v1 (decide ((x3.toNat:Int)=43)))) else ((z5d v1 10 0).bind fun r27=>some (r27.1,r27.2))
noncomputable def je (s1:Bs):Option (Int×Int):=
 (Za s1).bind fun r2=>if decide (r2.2≠0) then ((z43 [65,116,111,105] s1 0 0 r2.2).bind fun r5=>some (r2.1,r5)) else (some (r2.1,0))
noncomputable def z04 (v29:Bool):Option (Unit ⊕ (Int×Bool)):=
 if v29 then (some (.inr (0,false))) else (some (.inl ()))
noncomputable def z03 (i18:Nat) (x21:UInt8):Option (Unit ⊕ (Int×Bool)):=
 if decide ((x21.toNat:Int) < 48) then (z04 true) else (z04 (decide (57 < (x21.toNat:Int))))
noncomputable def Qk (s1:Bs):Option (Int×Bool):=
 (je s1).bind fun r22=>some (r22.1,decide (r22.2=0))
noncomputable def vi (s1:Bs) (r3:(Bs)) (v16:Bool):Option (Int×Bool):=
 if v16 then (some (0,false)) else (if r3.length≤1000000000 then forL (fun (k:Nat) (x:UInt8) (s:Unit)=>z03 k x) (fun (s:Unit)=>Qk s1) 0 r3 () else none)
noncomputable def z0t (s1:Bs) (most2:Int):Option (Int×Bool):=
 (z2j s1 [45]).bind fun r3=>if decide (r3=[]) then (vi s1 r3 true) else (if decide (most2 < (r3.length:Int)) then (vi s1 r3 true) else ((r3[0]?).bind fun (x9:UInt8)=>if decide ((x9.toNat:Int)=48) then (vi s1 r3 (decide (s1≠[48]))) else (vi s1 r3 false)))
noncomputable def z2u (s1:Bs):Option (Int×Bool):=
 (z0t s1 9).bind fun r2=>some (r2.1,r2.2)
noncomputable def z2v (n1:Int) (low2:Int) (high3:Int):Option (Bool):=
 some ((decide (n1 < low2)) || (decide (high3 < n1)))
noncomputable def xe (n34:Int):Option (Int×Bool):=
 some (n34,decide (n34≤1000))
noncomputable def jc (r2:(Bs×Bs×Bool)) (r4:(Int×Bool)) (v25:Bool):Option (Int×Bool):=
 if v25 then (some (0,false)) else (if r2.2.2 then (if r2.2.1.length+[48,48].length≤1000000000 then ((sub? (r2.2.1++[48,48]) 0 3).bind fun (l29:Bs)=>(je l29).bind fun r31=>if decide (r31.2≠0) then (some (0,false)) else (xe (wr ((wr (r4.1 * 1000))+r31.1)))) else none) else (xe (wr (r4.1 * 1000))))
noncomputable def xv (s1:Bs):Option (Int×Bool):=
 (vy s1 [46]).bind fun r2=>(z2u r2.1).bind fun r4=>if !r4.2 then (jc r2 r4 true) else ((z2v r4.1 0 1).bind fun r8=>if r8 then (jc r2 r4 true) else (if r2.2.2 then (if decide (r2.2.1=[]) then (jc r2 r4 true) else (if decide (3 < (r2.2.1.length:Int)) then (jc r2 r4 true) else ((Yy r2.2.1 [48,49,50,51,52,53,54,55,56,57]).bind fun r18=>jc r2 r4 (decide (r18≠[]))))) else (jc r2 r4 false)))
noncomputable def Ym (v63:Bool) (c64:Bs) (c65:Int) (c66:Bool) (l67:(List yg)) (c68:Int):Option ((Bool×(List yg)×Bs×Int×Bool×Int) ⊕ (zj×zk)):=
 (ue (zk.mk c64 c65 c66)).bind fun r69=>some (.inl (v63,l67,r69.s_,r69.i_,r69.bad_,c68))
noncomputable def kz (v17:Bool) (l18:(List yg)) (c22:Int) (r36:(Bs×zk)) (r46:(Bool×zk)) (v53:Bs) (c54:Bs) (c55:Int) (c56:Bool):Option ((Bool×(List yg)×Bs×Int×Bool×Int) ⊕ (zj×zk)):=
 (z2o r36.1).bind fun r57=>if !r57 then (if l18.length+1≤1000000000 then (Ym v17 c54 c55 c56 (l18++[(yg.mk r36.1 v53)]) c22) else none) else ((xv v53).bind fun r61=>Ym true c54 c55 (((c56 || v17) || r46.1) || (!r61.2)) l18 r61.1)
noncomputable def jz (v17:Bool) (l18:(List yg)) (c22:Int) (r36:(Bs×zk)) (c43:Bs) (c44:Int) (c45:Bool):Option ((Bool×(List yg)×Bs×Int×Bool×Int) ⊕ (zj×zk)):=
 (kb (zk.mk c43 c44 c45) 34).bind fun r46=>if r46.1 then ((z2n r46.2).bind fun r49=>kz v17 l18 c22 r36 r46 r49.1 r49.2.s_ r49.2.i_ r49.2.bad_) else ((xx r46.2).bind fun r51=>kz v17 l18 c22 r36 r46 r51.1 r51.2.s_ r51.2.i_ r51.2.bad_)
noncomputable def z2c (c14:Bs) (c71:Bs) (c72:Int) (c73:Bool) (l74:(List yg)) (c75:Int):Option (zj×zk):=
 some ((zj.mk c14 l74 c75),(zk.mk c71 c72 c73))
noncomputable def ka (c14:Bs) (v17:Bool) (l18:(List yg)) (c22:Int) (v29:Bool) (c30:Bs) (c31:Int) (c32:Bool):Option ((Bool×(List yg)×Bs×Int×Bool×Int) ⊕ (zj×zk)):=
 if v29 then ((ue (zk.mk c30 c31 c32)).bind fun r34=>(xx r34).bind fun r36=>if r36.2.bad_ then (jz v17 l18 c22 r36 r36.2.s_ r36.2.i_ true) else ((kb r36.2 61).bind fun r40=>jz v17 l18 c22 r36 r40.2.s_ r40.2.i_ (!r40.1))) else (Option.map .inr (z2c c14 c30 c31 c32 l18 c22))
noncomputable def ky (c14:Bs) (v17:Bool) (l18:(List yg)) (c19:Bs) (c20:Int) (c21:Bool) (c22:Int):Option ((Bool×(List yg)×Bs×Int×Bool×Int) ⊕ (zj×zk)):=
 if !c21 then ((kb (zk.mk c19 c20 c21) 59).bind fun r26=>ka c14 v17 l18 c22 r26.1 r26.2.s_ r26.2.i_ r26.2.bad_) else (ka c14 v17 l18 c22 false c19 c20 c21)
noncomputable def xj (c11:Bs) (c12:Int) (c13:Bool) (c14:Bs):Option (zj×zk):=
 (ue (zk.mk c11 c12 c13)).bind fun r15=>iter (fun (s:Bool×(List yg)×Bs×Int×Bool×Int)=>ky c14 s.1 s.2.1 s.2.2.1 s.2.2.2.1 s.2.2.2.2.1 s.2.2.2.2.2) (false,([]:List yg),r15.s_,r15.i_,r15.bad_,1000)
noncomputable def Qc (s1:zk):Option (zj×zk):=
 (xx s1).bind fun r2=>(kb r2.2 47).bind fun r4=>if r4.1 then ((xx r4.2).bind fun r7=>if [47].length+r7.1.length≤1000000000 then (if r2.1.length+([47]++r7.1).length≤1000000000 then (xj r7.2.s_ r7.2.i_ r7.2.bad_ (r2.1++([47]++r7.1))) else none) else none) else (xj r4.2.s_ r4.2.i_ r4.2.bad_ r2.1)
noncomputable def z4n (p1:zj→Option (Bool)) (k2:Nat) (x5:zj):Option (Unit ⊕ (Int)):=
 (p1 x5).bind fun r8=>if r8 then (some (.inr (k2:Int))) else (some (.inl ()))
noncomputable def z4o:Option (Int):=
 some (-1)
noncomputable def z45 (s1:(List zj)) (p1:zj→Option (Bool)):Option (Int):=
 if s1.length≤1000000000 then forL (fun (k:Nat) (x:zj) (s:Unit)=>z4n p1 k x) (fun (s:Unit)=>z4o) 0 s1 () else none
noncomputable def Qa (s1:(List zj)) (p1:zj→Option (Bool)):Option (Bool):=
 (z45 s1 p1).bind fun r2=>some (decide (0≤r2))
noncomputable def z0q (it1:zj):Option (Bool):=
 some (decide (100 < (it1.Params.length:Int)))
noncomputable def vw (v27:(List zj)) (c28:Bs) (c29:Int) (c30:Bool):Option ((Bs×Int×Bool×(List zj)) ⊕ ((List zj)×Int)):=
 (ue (zk.mk c28 c29 c30)).bind fun r31=>some (.inl (r31.s_,r31.i_,r31.bad_,v27))
noncomputable def Yv (v33:(List zj)) (v43:Bool):Option ((List zj)×Int):=
 if v43 then (some ([],2)) else (some (v33,0))
noncomputable def xo (v33:(List zj)) (c34:Bs) (c35:Int) (c36:Bool):Option ((List zj)×Int):=
 if c36 then (some ([],9)) else (if decide (50 < (v33.length:Int)) then (Yv v33 true) else ((Qa v33 (fun (a0:zj)=>z0q a0)).bind fun r40=>Yv v33 r40))
noncomputable def jd (v1:Bs) (c7:Bs) (c8:Int) (c9:Bool) (l10:(List zj)):Option ((Bs×Int×Bool×(List zj)) ⊕ ((List zj)×Int)):=
 if ((decide (c8 < (v1.length:Int))) && (!c9)) then ((kb (zk.mk c7 c8 c9) 44).bind fun r13=>if r13.1 then (vw l10 r13.2.s_ r13.2.i_ r13.2.bad_) else ((Qc r13.2).bind fun r16=>if l10.length+1≤1000000000 then (if r16.2.bad_ then (vw (l10++[r16.1]) r16.2.s_ r16.2.i_ true) else (if decide (r16.2.i_ < (v1.length:Int)) then ((kb r16.2 44).bind fun r23=>vw (l10++[r16.1]) r23.2.s_ r23.2.i_ (!r23.1)) else (vw (l10++[r16.1]) r16.2.s_ r16.2.i_ false))) else none)) else (Option.map .inr (xo l10 c7 c8 c9))
noncomputable def z0r (v1:Bs):Option ((List zj)×Int):=
 (Qf v1).bind fun r2=>if !r2 then (some ([],3)) else ((ue (zk.mk v1 0 false)).bind fun r5=>iter (fun (s:Bs×Int×Bool×(List zj))=>jd v1 s.1 s.2.1 s.2.2.1 s.2.2.2) (r5.s_,r5.i_,r5.bad_,[]))
noncomputable def xk (v14:Bool):Option (Bool):=
 some v14
noncomputable def z0o (s1:Bs):Option (Bool):=
 (vy s1 [47]).bind fun r2=>(xz r2.1).bind fun r4=>if r4 then (if !r2.2.2 then (xk true) else ((xz r2.2.1).bind fun r10=>xk r10)) else (xk false)
noncomputable def xf (v26:Bool):Option (Unit ⊕ ((List zj)×Int)):=
 if v26 then (some (.inr ([],9))) else (some (.inl ()))
noncomputable def Yk (slash3:Bool) (k8:Nat) (x11:Bs):Option (Unit ⊕ ((List zj)×Int)):=
 (z0o x11).bind fun r14=>if !r14 then (xf true) else ((ud x11 [47]).bind fun r18=>if (r18 != slash3) then (xf true) else ((ud x11 [42]).bind fun r22=>xf r22))
noncomputable def z2a (r4:((List zj)×Int)):Option ((List zj)×Int):=
 some (r4.1,0)
noncomputable def Qb (accept1:Bs) (offers2:(List Bs)) (slash3:Bool):Option ((List zj)×Int):=
 (z0r accept1).bind fun r4=>if decide (r4.2≠0) then (some ([],r4.2)) else (if decide (50 < (offers2.length:Int)) then (some ([],2)) else (if offers2.length≤1000000000 then forL (fun (k:Nat) (x:Bs) (s:Unit)=>Yk slash3 k x) (fun (s:Unit)=>z2a r4) 0 offers2 () else none))
noncomputable def Ys (special25:Int) (q26:Int):Option ((Int×Int) ⊕ ((Int×Int) ⊕ (Int×Int))):=
 some (.inl (special25,q26))
noncomputable def xl (p2:Bs→Bs→Option (Int)) (x9:Bs) (k15:Nat) (x18:zj) (special13:Int) (q14:Int):Option ((Int×Int) ⊕ ((Int×Int) ⊕ (Int×Int))):=
 (p2 x18.Words x9).bind fun r22=>if decide (special13 < r22) then (Ys r22 x18.Quality) else (Ys special13 q14)
noncomputable def Yt (best27:Int) (most28:Int):Option ((Int×Int) ⊕ (Int×Int)):=
 some (.inl (best27,most28))
noncomputable def z2f (best4:Int) (most5:Int) (k6:Nat) (special13:Int) (q14:Int):Option ((Int×Int) ⊕ (Int×Int)):=
 if decide (most5 < q14) then (Yt (k6:Int) q14) else (Yt best4 most5)
noncomputable def xm (l1:(List zj)) (p2:Bs→Bs→Option (Int)) (k6:Nat) (x9:Bs) (best4:Int) (most5:Int):Option ((Int×Int) ⊕ (Int×Int)):=
 if l1.length≤1000000000 then forL (fun (k:Nat) (x:zj) (s:Int×Int)=>xl p2 x9 k x s.1 s.2) (fun (s:Int×Int)=>z2f best4 most5 k6 s.1 s.2) 0 l1 (0,0) else none
noncomputable def Yu (best4:Int) (most5:Int):Option (Int×Int):=
 if decide (best4 < 0) then (some (0,8)) else (some (best4,0))
noncomputable def xy (l1:(List zj)) (offers2:(List Bs)) (p2:Bs→Bs→Option (Int)):Option (Int×Int):=
 if ((decide (0 < (offers2.length:Int))) && (decide ((l1.length:Int)=0))) then (some (0,0)) else (if offers2.length≤1000000000 then forL (fun (k:Nat) (x:Bs) (s:Int×Int)=>xm l1 p2 k x s.1 s.2) (fun (s:Int×Int)=>Yu s.1 s.2) 0 offers2 ((-1),0) else none)
noncomputable def xw (words1:Bs) (offer2:Bs):Option (Int):=
 (uc words1).bind fun r3=>(uc offer2).bind fun r5=>(vy r5 [47]).bind fun r7=>if decide (r3=r5) then some 3 else (if r7.1.length+[47,42].length≤1000000000 then (if decide (r3=(r7.1++[47,42])) then some 2 else (if decide (r3=[42,47,42]) then some 1 else some 0)) else none)
noncomputable def z2t (accept1:Bs) (offers2:(List Bs)):Option (Int×Int):=
 (Qb accept1 offers2 true).bind fun r3=>if decide (r3.2≠0) then (some (0,r3.2)) else ((xy r3.1 offers2 (fun (a0:Bs) (a1:Bs)=>xw a0 a1)).bind fun r6=>some (r6.1,r6.2))
noncomputable def z1j (v12:Bool):Option (Unit ⊕ (Bool)):=
 if v12 then (some (.inr false)) else (some (.inl ()))
noncomputable def z5w (low2:Int) (k3:Nat) (x6:UInt8):Option (Unit ⊕ (Bool)):=
 if decide ((x6.toNat:Int) < low2) then (z1j true) else (z1j (decide (126 < (x6.toNat:Int))))
noncomputable def z5x:Option (Bool):=
 some true
noncomputable def z5e (s1:Bs) (low2:Int):Option (Bool):=
 if s1.length≤1000000000 then forL (fun (k:Nat) (x:UInt8) (s:Unit)=>z5w low2 k x) (fun (s:Unit)=>z5x) 0 s1 () else none
noncomputable def Wg (v12:Bool):Option (Bool):=
 some v12
noncomputable def z2y (s1:Bs):Option (Bool):=
 if decide ((s1.length:Int)≤2000) then ((z5e s1 32).bind fun r4=>if r4 then ((Yz s1 [32]).bind fun r8=>Wg (decide (r8=s1))) else (Wg false)) else (Wg false)
noncomputable def Yh (s1:Bs) (cutset2:Bs) (v9:Bool):Option (Bs):=
 if v9 then ((cutset2[0]?).bind fun (x11:UInt8)=>(ub s1 (x11.toNat:Int)).bind fun r13=>some r13) else none
noncomputable def z2k (s1:Bs) (cutset2:Bs):Option (Bs):=
 if ((decide (s1=[])) || (decide (cutset2=[]))) then some s1 else (if decide ((cutset2.length:Int)=1) then ((cutset2[0]?).bind fun (x6:UInt8)=>Yh s1 cutset2 (decide ((x6.toNat:Int) < 128))) else (Yh s1 cutset2 false))
noncomputable def ug (s1:zx):Option (zx):=
 (z2k s1.s_ [32]).bind fun r2=>some (zx.mk r2)
noncomputable def Qv (s1:zx) (i6:Int):Option (Bs×zx):=
 (sub? s1.s_ 0 i6).bind fun (l7:Bs)=>(sub? s1.s_ i6 (s1.s_.length:Int)).bind fun (l9:Bs)=>some (l7,(zx.mk l9))
noncomputable def jf (s1:zx) (some2:Bs):Option (Bs×zx):=
 (z2l s1.s_ some2).bind fun r3=>if decide (r3 < 0) then (Qv s1 (s1.s_.length:Int)) else (Qv s1 r3)
noncomputable def Zc (n1:Int) (low2:Int) (high3:Int):Option (Bool):=
 some ((decide (low2≤n1)) && (decide (n1≤high3)))
noncomputable def z3g (some2:Bs) (k3:Nat) (x6:UInt8):Option (Unit ⊕ (Bool)):=
 (z0l some2 (x6.toNat:Int)).bind fun r9=>if decide (r9 < 0) then (some (.inr false)) else (some (.inl ()))
noncomputable def z5y:Option (Bool):=
 some true
noncomputable def kn (s1:Bs) (some2:Bs):Option (Bool):=
 if s1.length≤1000000000 then forL (fun (k:Nat) (x:UInt8) (s:Unit)=>z3g some2 k x) (fun (s:Unit)=>z5y) 0 s1 () else none
noncomputable def Wa (v9:Bool):Option (Bool):=
 some v9
noncomputable def uh (s1:Bs):Option (Bool):=
 (Zc (s1.length:Int) 1 100).bind fun r2=>if r2 then ((kn s1 [97,98,99,100,101,102,103,104,105,106,107,108,109,110,111,112,113,114,115,116,117,118,119,120,121,122,65,66,67,68,69,70,71,72,73,74,75,76,77,78,79,80,81,82,83,84,85,86,87,88,89,90,48,49,50,51,52,53,54,55,56,57,33,35,36,37,38,39,42,43,45,46,94,95,96,124,126]).bind fun r6=>Wa r6) else (Wa false)
noncomputable def Zl (v14:Bool):Option (Bool):=
 some v14
noncomputable def Qg (s1:Bs):Option (Bool):=
 (vy s1 [47]).bind fun r2=>(uh r2.1).bind fun r4=>if r4 then (if !r2.2.2 then (Zl true) else ((uh r2.2.1).bind fun r10=>Zl r10)) else (Zl false)
noncomputable def Zm (l3:(List Int)) (v26:Int) (c27:Bs):Option ((Bs×(List Int)) ⊕ (Bs×Bool×zx)):=
 if l3.length+1≤1000000000 then (some (.inl (c27,(l3++[v26])))) else none
noncomputable def ul (l3:(List Int)) (l8:Bs) (v20:Bool):Option ((Bs×(List Int)) ⊕ (Bs×Bool×zx)):=
 if v20 then (some (.inr ([],false,(zx.mk l8)))) else ((l8[0]?).bind fun (x22:UInt8)=>(sub? l8 1 (l8.length:Int)).bind fun (l24:Bs)=>Zm l3 (x22.toNat:Int) l24)
noncomputable def z3h (c29:Bs):Option (Bs×Bool×zx):=
 some ([],false,(zx.mk c29))
noncomputable def wx (c2:Bs) (l3:(List Int)):Option ((Bs×(List Int)) ⊕ (Bs×Bool×zx)):=
 if decide (c2≠[]) then ((c2[0]?).bind fun (x6:UInt8)=>(sub? c2 1 (c2.length:Int)).bind fun (l8:Bs)=>if decide ((x6.toNat:Int)=34) then (some (.inr ((strN l3),true,(zx.mk l8)))) else (if decide ((x6.toNat:Int)=92) then (if decide (l8=[]) then (ul l3 l8 true) else ((l8[0]?).bind fun (x14:UInt8)=>if decide ((x14.toNat:Int)≠34) then (ul l3 l8 (decide ((x14.toNat:Int)≠92))) else (ul l3 l8 false))) else (Zm l3 (x6.toNat:Int) l8))) else (Option.map .inr (z3h c2))
noncomputable def z2x (s1:zx):Option (Bs×Bool×zx):=
 iter (fun (s:Bs×(List Int))=>wx s.1 s.2) (s1.s_,[])
noncomputable def vk (r2:(Bs×Bs×Bool)) (v30:Bool):Option (Int×Bool):=
 if v30 then (some (0,false)) else (if r2.2.1.length+[48,48,48].length≤1000000000 then ((sub? (r2.2.1++[48,48,48]) 0 3).bind fun (l33:Bs)=>if r2.1.length+l33.length≤1000000000 then ((je (r2.1++l33)).bind fun r36=>some (r36.1,((decide (r36.2=0)) && (decide (r36.1≤1000))))) else none) else none)
noncomputable def Zb (s1:Bs):Option (Int×Bool):=
 (vy s1 [46]).bind fun r2=>if decide (r2.1≠[48]) then (if decide (r2.1≠[49]) then (vk r2 true) else (if r2.2.2 then ((Zc (r2.2.1.length:Int) 1 3).bind fun r10=>if !r10 then (vk r2 true) else ((kn r2.2.1 [48,49,50,51,52,53,54,55,56,57]).bind fun r14=>vk r2 (!r14))) else (vk r2 false))) else (if r2.2.2 then ((Zc (r2.2.1.length:Int) 1 3).bind fun r22=>if !r22 then (vk r2 true) else ((kn r2.2.1 [48,49,50,51,52,53,54,55,56,57]).bind fun r26=>vk r2 (!r26))) else (vk r2 false))
noncomputable def Zn (s2:zj) (s3:Bool) (r6:(Bs×zx)) (r19:(Bool)) (v30:Bs) (v31:Bool) (c32:Bs):Option (Bool×zx×zj×Bool):=
 if !v31 then (some (false,(zx.mk c32),s2,s3)) else (if ((decide (r6.1≠[113])) && (decide (r6.1≠[81]))) then (if s2.Params.length+1≤1000000000 then (some (true,(zx.mk c32),(zj.mk s2.Words (s2.Params++[(yg.mk r6.1 v30)]) s2.Quality),s3)) else none) else ((Zb v30).bind fun r36=>some (((r36.2 && (!s3)) && (!r19)),(zx.mk c32),(zj.mk s2.Words s2.Params r36.1),true)))
noncomputable def Zo (s2:zj) (s3:Bool) (r6:(Bs×zx)) (v15:Bool):Option (Bool×zx×zj×Bool):=
 if v15 then (some (false,r6.2,s2,s3)) else ((sub? r6.2.s_ 1 (r6.2.s_.length:Int)).bind fun (l17:Bs)=>(xt l17 [34]).bind fun r19=>if r19 then ((sub? l17 1 (l17.length:Int)).bind fun (l22:Bs)=>(z2x (zx.mk l22)).bind fun r24=>Zn s2 s3 r6 r19 r24.1 r24.2.1 r24.2.2.s_) else ((jf (zx.mk l17) [44,59,32]).bind fun r26=>(uh r26.1).bind fun r28=>Zn s2 s3 r6 r19 r26.1 r28 r26.2.s_))
noncomputable def uf (s1:zx) (s2:zj) (s3:Bool):Option (Bool×zx×zj×Bool):=
 (ug s1).bind fun r4=>(jf r4 [61,44,59,32]).bind fun r6=>(uh r6.1).bind fun r8=>if !r8 then (Zo s2 s3 r6 true) else ((xt r6.2.s_ [61]).bind fun r12=>Zo s2 s3 r6 (!r12))
noncomputable def Qw (l7:(List yg)) (c8:Bs) (c9:Bs) (c10:Int) (c11:Bool):Option (((List yg)×Bs×Bs×Int×Bool) ⊕ (zj×Bool×zx)):=
 (ug (zx.mk c8)).bind fun r13=>(xt r13.s_ [59]).bind fun r15=>if !r15 then (some (.inr ((zj.mk c9 l7 c10),true,r13))) else ((sub? r13.s_ 1 (r13.s_.length:Int)).bind fun (l18:Bs)=>(uf (zx.mk l18) (zj.mk c9 l7 c10) c11).bind fun r20=>if !r20.1 then (some (.inr (r20.2.2.1,false,r20.2.1))) else (some (.inl (r20.2.2.1.Params,r20.2.1.s_,r20.2.2.1.Words,r20.2.2.1.Quality,r20.2.2.2))))
noncomputable def z0u (s1:zx):Option (zj×Bool×zx):=
 (jf s1 [44,59,32]).bind fun r2=>(Qg r2.1).bind fun r4=>if !r4 then (some ((zj.mk r2.1 ([]:List yg) 1000),false,r2.2)) else (iter (fun (s:(List yg)×Bs×Bs×Int×Bool)=>Qw s.1 s.2.1 s.2.2.1 s.2.2.2.1 s.2.2.2.2) (([]:List yg),r2.2.s_,r2.1,1000,false))
noncomputable def z0w (x1:zj):Option (Bool):=
 some (decide (100 < (x1.Params.length:Int)))
noncomputable def jr (v29:(List zj)) (c30:Bs):Option ((Bs×(List zj)) ⊕ ((List zj)×Int)):=
 (ug (zx.mk c30)).bind fun r31=>some (.inl (r31.s_,v29))
noncomputable def Zt (l8:(List zj)) (r16:(zj×Bool×zx)) (v26:Bool):Option ((Bs×(List zj)) ⊕ ((List zj)×Int)):=
 if v26 then (some (.inr ([],9))) else (if l8.length+1≤1000000000 then (jr (l8++[r16.1]) r16.2.2.s_) else none)
noncomputable def Wd (v33:(List zj)) (v39:Bool):Option ((List zj)×Int):=
 if v39 then (some ([],2)) else (some (v33,0))
noncomputable def We (v33:(List zj)):Option ((List zj)×Int):=
 if decide (50 < (v33.length:Int)) then (Wd v33 true) else ((Qa v33 (fun (a0:zj)=>z0w a0)).bind fun r36=>Wd v33 r36)
noncomputable def jj (c7:Bs) (l8:(List zj)):Option ((Bs×(List zj)) ⊕ ((List zj)×Int)):=
 if decide (c7≠[]) then ((c7[0]?).bind fun (x11:UInt8)=>if decide ((x11.toNat:Int)=44) then ((sub? c7 1 (c7.length:Int)).bind fun (l14:Bs)=>jr l8 l14) else ((z0u (zx.mk c7)).bind fun r16=>if !r16.2.1 then (Zt l8 r16 true) else (if decide (r16.2.2.s_≠[]) then ((r16.2.2.s_[0]?).bind fun (x22:UInt8)=>Zt l8 r16 (decide ((x22.toNat:Int)≠44))) else (Zt l8 r16 false)))) else (Option.map .inr (We l8))
noncomputable def z0x (v1:Bs):Option ((List zj)×Int):=
 (z2y v1).bind fun r2=>if !r2 then (some ([],3)) else ((ug (zx.mk v1)).bind fun r5=>iter (fun (s:Bs×(List zj))=>jj s.1 s.2) (r5.s_,[]))
noncomputable def Qz (best32:Int) (taken33:Int):Option ((Int×Int) ⊕ (Int×Int)):=
 some (.inl (best32,taken33))
noncomputable def Qy (best3:Int) (taken4:Int) (k5:Nat) (q19:Int):Option ((Int×Int) ⊕ (Int×Int)):=
 if decide (best3 < q19) then (Qz q19 (k5:Int)) else (Qz best3 taken4)
noncomputable def Qx (q30:Int) (most31:Int):Option ((Int×Int) ⊕ ((Int×Int) ⊕ (Int×Int))):=
 some (.inl (q30,most31))
noncomputable def Zp (p2:Bs→Bs→Option (Int)) (x8:Bs) (k14:Nat) (x17:zj) (q12:Int) (most13:Int):Option ((Int×Int) ⊕ ((Int×Int) ⊕ (Int×Int))):=
 (uc x17.Words).bind fun r23=>(uc x8).bind fun r25=>(p2 r23 r25).bind fun r27=>if decide (most13 < r27) then (Qx x17.Quality r27) else (Qx q12 most13)
noncomputable def z3i (l1:(List zj)) (best3:Int) (taken4:Int) (k5:Nat) (q12:Int) (most13:Int):Option ((Int×Int) ⊕ (Int×Int)):=
 if decide ((l1.length:Int)=0) then (Qy best3 taken4 k5 1000) else (Qy best3 taken4 k5 q12)
noncomputable def ji (l1:(List zj)) (p2:Bs→Bs→Option (Int)) (k5:Nat) (x8:Bs) (best3:Int) (taken4:Int):Option ((Int×Int) ⊕ (Int×Int)):=
 if l1.length≤1000000000 then forL (fun (k:Nat) (x:zj) (s:Int×Int)=>Zp p2 x8 k x s.1 s.2) (fun (s:Int×Int)=>z3i l1 best3 taken4 k5 s.1 s.2) 0 l1 (0,0) else none
noncomputable def Zq (best3:Int) (taken4:Int):Option (Int×Int):=
 if decide (taken4 < 0) then (some (0,8)) else (some (taken4,0))
noncomputable def z0v (l1:(List zj)) (offers2:(List Bs)) (p2:Bs→Bs→Option (Int)):Option (Int×Int):=
 if offers2.length≤1000000000 then forL (fun (k:Nat) (x:Bs) (s:Int×Int)=>ji l1 p2 k x s.1 s.2) (fun (s:Int×Int)=>Zq s.1 s.2) 0 offers2 (0,(-1)) else none
noncomputable def Zs (words1:Bs) (c3:Bool) (v11:Bool):Option (Int):=
 if v11 then some 2 else (if ((c3 && (decide (words1=[42,47,42]))) || ((!c3) && (decide (words1=[42])))) then some 1 else some 0)
noncomputable def ko (words1:Bs) (offer2:Bs) (c3:Bool):Option (Int):=
 (vy offer2 [47]).bind fun r4=>if decide (words1=offer2) then some 3 else (if c3 then (if r4.1.length+[47,42].length≤1000000000 then (Zs words1 c3 (decide (words1=(r4.1++[47,42])))) else none) else (Zs words1 c3 false))
noncomputable def Zr (v28:Bool):Option (Unit ⊕ (Int×Int)):=
 if v28 then (some (.inr (0,9))) else (some (.inl ()))
noncomputable def Wb (types3:Bool) (k8:Nat) (x11:Bs):Option (Unit ⊕ (Int×Int)):=
 (Qg x11).bind fun r16=>if !r16 then (Zr true) else ((ud x11 [47]).bind fun r20=>if (r20 != types3) then (Zr true) else ((ud x11 [42]).bind fun r24=>Zr r24))
noncomputable def Wc (offers2:(List Bs)) (types3:Bool) (r4:((List zj)×Int)):Option (Int×Int):=
 (z0v r4.1 offers2 (fun (a0:Bs) (a1:Bs)=>ko a0 a1 types3)).bind fun r12=>some (r12.1,r12.2)
noncomputable def ui (accept1:Bs) (offers2:(List Bs)) (types3:Bool):Option (Int×Int):=
 (z0x accept1).bind fun r4=>if decide (r4.2≠0) then (some (0,r4.2)) else (if decide (50 < (offers2.length:Int)) then (some (0,2)) else (if offers2.length≤1000000000 then forL (fun (k:Nat) (x:Bs) (s:Unit)=>Wb types3 k x) (fun (s:Unit)=>Wc offers2 types3 r4) 0 offers2 () else none))
noncomputable def xu (words1:Bs) (offer2:Bs):Option (Int):=
 (z0m words1 offer2).bind fun r3=>if r3 then some 2 else (if decide (words1=[42]) then some 1 else some 0)
noncomputable def z2r (accept1:Bs) (offers2:(List Bs)):Option (Int×Int):=
 (Qb accept1 offers2 false).bind fun r3=>if decide (r3.2≠0) then (some (0,r3.2)) else ((xy r3.1 offers2 (fun (a0:Bs) (a1:Bs)=>xu a0 a1)).bind fun r6=>some (r6.1,r6.2))
noncomputable def xn (v17:Bool):Option (Int):=
 if v17 then some 3 else some 0
noncomputable def z2s (s1:Bs):Option (Int):=
 if decide (1000 < (s1.length:Int)) then (xn true) else ((xt s1 [47]).bind fun r4=>if !r4 then (xn true) else ((Qe s1 33 126).bind fun r8=>if !r8 then (xn true) else ((z41 s1 [63,35]).bind fun r12=>xn r12)))
noncomputable def z2m (l1:(List Int)) (c2:Int):Option (Int×(List Int)):=
 if l1.length+1≤1000000000 then (some (0,(l1++[c2]))) else none
noncomputable def z2q (c1:Int):Option (Bool):=
 (z0p c1).bind fun r2=>some ((r2 || ((decide (97≤c1)) && (decide (c1≤102)))) || ((decide (65≤c1)) && (decide (c1≤70))))
noncomputable def Yo (v17:Bool):Option (Bool):=
 some v17
noncomputable def z5a (s1:Bs) (v2:Int):Option (Bool):=
 if decide ((wr (v2+2)) < (s1.length:Int)) then ((at? s1 (wr (v2+1))).bind fun (x5:UInt8)=>(z2q (x5.toNat:Int)).bind fun r7=>if r7 then ((at? s1 (wr (v2+2))).bind fun (x11:UInt8)=>(z2q (x11.toNat:Int)).bind fun r13=>Yo r13) else (Yo false)) else (Yo false)
noncomputable def z44 (s1:Bs) (base2:Int) (bitSize3:Int):Option (Int×Int):=
 (z2w s1 base2 bitSize3).bind fun r4=>if decide (r4.2≠0) then ((z43 [80,97,114,115,101,85,105,110,116] s1 base2 bitSize3 r4.2).bind fun r7=>some (r4.1,r7)) else (some (r4.1,0))
noncomputable def z47 (s1:Bs) (v2:Int):Option (Int):=
 (sub? s1 (wr (v2+1)) (wr (v2+3))).bind fun (l3:Bs)=>(z44 l3 16 8).bind fun r5=>if decide (r5.2≠0) then some 0 else (some (IntKind.wrap .u8 r5.1))
noncomputable def Yr (v14:Bool):Option (Bool):=
 some v14
noncomputable def z5b (c1:Int):Option (Bool):=
 (z2p c1).bind fun r2=>if r2 then (Yr true) else ((z0p c1).bind fun r6=>if r6 then (Yr true) else ((z0l [45,46,95,126] c1).bind fun r10=>Yr (decide (0≤r10))))
noncomputable def z48 (c1:Int):Option (Bs):=
 (at? [48,49,50,51,52,53,54,55,56,57,65,66,67,68,69,70] (shr_ .u8 c1 4)).bind fun (x2:UInt8)=>(at? [48,49,50,51,52,53,54,55,56,57,65,66,67,68,69,70] (and_ .u8 c1 15)).bind fun (x4:UInt8)=>some (strN [37,(x2.toNat:Int),(x4.toNat:Int)])
noncomputable def z42 (l1:(List Int)) (s2:Bs):Option (Int×Int×(List Int)):=
 if l1.length+s2.length≤1000000000 then (some ((s2.length:Int),0,(l1++yi s2))) else none
noncomputable def z0j (i26:Int) (l27:(List Int)):Option ((Int×(List Int)) ⊕ (Bs×Bool)):=
 some (.inl (wr (i26+1),l27))
noncomputable def z0i (i2:Int) (l25:(List Int)):Option ((Int×(List Int)) ⊕ (Bs×Bool)):=
 z0j (wr (i2+2)) l25
noncomputable def z2b (l28:(List Int)):Option (Bs×Bool):=
 if byR l28=true then (some ((strN l28),true)) else none
noncomputable def z4x (s1:Bs) (i2:Int) (l3:(List Int)):Option ((Int×(List Int)) ⊕ (Bs×Bool)):=
 if decide (i2 < (s1.length:Int)) then ((at? s1 i2).bind fun (x6:UInt8)=>if decide ((x6.toNat:Int)≠37) then ((z2m l3 (x6.toNat:Int)).bind fun r9=>z0j i2 r9.2) else ((z5a s1 i2).bind fun r11=>if !r11 then (some (.inr ([],false))) else ((z47 s1 i2).bind fun r14=>(z5b r14).bind fun r16=>if r16 then ((z2m l3 r14).bind fun r19=>z0i i2 r19.2) else ((z48 r14).bind fun r21=>(z42 l3 r21).bind fun r23=>z0i i2 r23.2.2)))) else (Option.map .inr (z2b l3))
noncomputable def z0n (s1:Bs):Option (Bs×Bool):=
 iter (fun (s:Int×(List Int))=>z4x s1 s.1 s.2) (0,([]:List Int))
noncomputable def Yw (out29:(List Bs)):Option ((List Bs) ⊕ (Bs×Int)):=
 some (.inl out29)
noncomputable def z0k (r10:((List Bs))) (k13:Nat) (out26:(List Bs)):Option ((List Bs) ⊕ (Bs×Int)):=
 if decide ((k13:Int)=(wr ((r10.length:Int) - 1))) then (if out26.length+1≤1000000000 then (Yw (out26++([[]]))) else none) else (Yw out26)
noncomputable def z2g (r10:((List Bs))) (k13:Nat) (x16:Bs) (l12:(List Bs)):Option ((List Bs) ⊕ (Bs×Int)):=
 if decide (x16=[46]) then (z0k r10 k13 l12) else (if decide (x16=[46,46]) then (if (0:Int)≤(max (wr ((l12.length:Int) - 1)) 0)∧(max (wr ((l12.length:Int) - 1)) 0)≤(l12.length:Int) then (z0k r10 k13 (l12.take (max (wr ((l12.length:Int) - 1)) 0).toNat)) else none) else (if l12.length+1≤1000000000 then (Yw (l12++[x16])) else none))
noncomputable def z2h (l12:(List Bs)):Option (Bs×Int):=
 (xr l12 [47]).bind fun r17=>if [47].length+r17.length≤1000000000 then (some (([47]++r17),0)) else none
noncomputable def z0s (s1:Bs):Option (Bs×Int):=
 (z2s s1).bind fun r2=>if decide (r2≠0) then (some ([],r2)) else ((z0n s1).bind fun r5=>if !r5.2 then (some ([],9)) else ((sub? r5.1 1 (r5.1.length:Int)).bind fun (l8:Bs)=>(xq l8 [47]).bind fun r10=>if r10.length≤1000000000 then forL (fun (k:Nat) (x:Bs) (s:(List Bs))=>z2g r10 k x s) (fun (s:(List Bs))=>z2h s) 0 r10 [] else none))
noncomputable def z02  : Option (Bool):=
 (z0s [47,97,47,46,46,47,98]).bind fun r1=>some ((decide (r1.2=0)) && (decide (r1.1=[47,98])))
noncomputable def um (v30:Bool):Option (Bool):=
 some v30
noncomputable def z2z (v1:(List Int)):Option (Bool):=
 (z00 (ya.mk v1 0)).bind fun r2=>(Qi r2.2 true).bind fun r4=>(Qi r4.2 false).bind fun r6=>(z2t r2.1 r4.1).bind fun r8=>(ui r2.1 r4.1 true).bind fun r10=>(z2r r2.1 r6.1).bind fun r12=>(ui r2.1 r6.1 false).bind fun r14=>if decide (r8.1=r10.1) then (if decide (r8.2=r10.2) then (if decide (r12.1=r14.1) then (if decide (r12.2=r14.2) then ((z02 ).bind fun r24=>um r24) else (um false)) else (um false)) else (um false)) else (um false)
end Go.Proofs.YtfindajhhadihaaGreatDoor
