/- Plain models of functions. Printed by a program. -/
import Derived.Test.YtpjjkhcojjcdpaaGreatDoorMc
namespace Go.Proofs.YtpjjkhcojjcdpaaGreatDoor
set_option linter.unusedVariables false
set_option maxRecDepth 20000
structure zz where
 L:(List Int)
 at_:Int
structure zt where
 Name:Bs
 Value:Bs
structure zg where
 Words:Bs
 Params:(List zt)
 Quality:Int
structure zm where
 s_:Bs
 i_:Int
 bad_:Bool
structure yb where
 s_:Bs
noncomputable def z0f (x6:Int):Option (Int):=
 some x6
noncomputable def Yc (x1:Int) (n2:Int):Option (Int):=
 if decide (n2 < 1) then some 0 else (if n2≠0 then (if decide ((Int.tmod x1 n2) < 0) then (z0f (wr ((Int.tmod x1 n2)+n2))) else (z0f (Int.tmod x1 n2))) else none)
noncomputable def vq (s1:zz) (n2:Int):Option (Int×zz):=
 if decide ((s1.L.length:Int)=0) then ((Yc (wr ((wr (s1.at_+1)) * 7919)) n2).bind fun r4=>some (r4,(zz.mk s1.L (wr (s1.at_+1))))) else (if (s1.L.length:Int)≠0 then (if ((0:Int)≤(wr ((wr (s1.at_+1)) - 1))∧(wr ((wr (s1.at_+1)) - 1))≤9223372036854775807)∧(0:Int) < (s1.L.length:Int) then ((at? s1.L (Int.tmod (wr ((wr (s1.at_+1)) - 1)) (s1.L.length:Int))).bind fun (x8:Int)=>(Yc x8 1073741824).bind fun r10=>(Yc (wr (r10+(wr (((wr ((wr (s1.at_+1)) - 1)) / (s1.L.length:Int)) * (wr (7919+(Int.tmod (wr ((wr (s1.at_+1)) - 1)) (s1.L.length:Int)))))))) n2).bind fun r12=>some (r12,(zz.mk s1.L (wr (s1.at_+1))))) else none) else none)
noncomputable def Yb (s1:zz) (low2:Int) (high3:Int):Option (Int×zz):=
 if decide (high3 < low2) then (some (low2,s1)) else ((vq s1 (wr ((wr (high3 - low2))+1))).bind fun r5=>some (wr (low2+r5.1),r5.2))
noncomputable def vp (s1:zz) (l2:(List Bs)):Option (Bs×zz):=
 (vq s1 (l2.length:Int)).bind fun r3=>(at? l2 r3.1).bind fun (x5:Bs)=>some (x5,r3.2)
noncomputable def z4r (l4:(List Bs)) (k8:Nat) (c5:(List Int)) (c6:Int) (l7:(List Bs)):Option (((List Int)×Int×(List Bs)) ⊕ (Bs×zz)):=
 (vp (zz.mk c5 c6) l4).bind fun r14=>if l7.length+1≤1000000000 then (some (.inl (r14.2.L,r14.2.at_,(l7++[r14.1])))) else none
noncomputable def z4s (between3:Bs) (c5:(List Int)) (c6:Int) (l7:(List Bs)):Option (Bs×zz):=
 (kc l7 between3).bind fun r11=>some (r11,(zz.mk c5 c6))
noncomputable def z1n (s1:zz) (many2:Int) (between3:Bs) (l4:(List Bs)):Option (Bs×zz):=
 if many2≤1000000000 then rng (fun (k:Nat) (s:(List Int)×Int×(List Bs))=>z4r l4 k s.1 s.2.1 s.2.2) (fun (s:(List Int)×Int×(List Bs))=>z4s between3 s.1 s.2.1 s.2.2) many2.toNat 0 (s1.L,s1.at_,[]) else none
noncomputable def xj (s1:zz) (n2:Int):Option (Bool×zz):=
 (vq s1 n2).bind fun r3=>some (decide (r3.1=0),r3.2)
noncomputable def xi (s1:zz) (l2:(List Int)):Option (Int×zz):=
 (vq s1 (l2.length:Int)).bind fun r3=>(at? l2 r3.1).bind fun (x5:Int)=>some (x5,r3.2)
noncomputable def z1r (s1:zz) (t2:Bs) (v3:Bs):Option (Bs×zz):=
 if ((decide (t2=[])) || (decide (v3=[]))) then (some (v3,s1)) else ((vq s1 (t2.length:Int)).bind fun r5=>(vq r5.2 (v3.length:Int)).bind fun r7=>(at? v3 r7.1).bind fun (x9:UInt8)=>(vq r7.2 3).bind fun r11=>if decide (r11.1=0) then ((sub? t2 0 r5.1).bind fun (l14:Bs)=>if l14.length+(encL (IntKind.wrap .i32 (x9.toNat:Int))).length≤1000000000 then ((sub? t2 (wr (r5.1+1)) (t2.length:Int)).bind fun (l17:Bs)=>if (l14++(encL (IntKind.wrap .i32 (x9.toNat:Int)))).length+l17.length≤1000000000 then (some (((l14++(encL (IntKind.wrap .i32 (x9.toNat:Int))))++l17),r11.2)) else none) else none) else (if decide (r11.1=1) then ((sub? t2 0 r5.1).bind fun (l21:Bs)=>if l21.length+(encL (IntKind.wrap .i32 (x9.toNat:Int))).length≤1000000000 then ((sub? t2 r5.1 (t2.length:Int)).bind fun (l24:Bs)=>if (l21++(encL (IntKind.wrap .i32 (x9.toNat:Int)))).length+l24.length≤1000000000 then (some (((l21++(encL (IntKind.wrap .i32 (x9.toNat:Int))))++l24),r11.2)) else none) else none) else ((sub? t2 0 r5.1).bind fun (l27:Bs)=>(sub? t2 (wr (r5.1+1)) (t2.length:Int)).bind fun (l29:Bs)=>if l27.length+l29.length≤1000000000 then (some ((l27++l29),r11.2)) else none)))
noncomputable def z4t (k21:Nat) (t18:Bs) (c19:(List Int)) (c20:Int):Option ((Bs×(List Int)×Int) ⊕ (Bs×zz)):=
 (z1r (zz.mk c19 c20) t18 [44,59,61,113,48,46,34,92,47,32]).bind fun r25=>some (.inl (r25.1,r25.2.L,r25.2.at_))
noncomputable def z4u (t18:Bs) (c19:(List Int)) (c20:Int):Option (Bs×zz):=
 some (t18,(zz.mk c19 c20))
noncomputable def Yr (t13:Bs) (c14:(List Int)) (c15:Int):Option (Bs×zz):=
 (xi (zz.mk c14 c15) [0,0,0,1,2]).bind fun r16=>if r16.1≤1000000000 then rng (fun (k:Nat) (s:Bs×(List Int)×Int)=>z4t k s.1 s.2.1 s.2.2) (fun (s:Bs×(List Int)×Int)=>z4u s.1 s.2.1 s.2.2) r16.1.toNat 0 (t13,r16.2.L,r16.2.at_) else none
noncomputable def z1p (s1:zz):Option (Bs×zz):=
 (Yb s1 0 4).bind fun r2=>(vp r2.2 ([[44],[44,32],[32,44,32]])).bind fun r4=>(z1n r4.2 r2.1 r4.1 ([[116,101,120,116,47,104,116,109,108],[116,101,120,116,47,42],[42,47,42],[100,101],[42],[97,59,113,61,48,46,53],[116,101,120,116,47,104,116,109,108,59,113,61,48,46,50,53],[98,59,120,61,49],[99,59,121,61,34,113,92,34,114,34],[100,101,59,32,81,61,48],[101,59,113,61,49,46,48,48,48],[],[105,109,97,103,101,47,112,110,103,59,113,61,48,46,48,48,49],[102,59,120,61,34,34,59,113,61,48]])).bind fun r6=>(xj r6.2 8).bind fun r8=>if r8.1 then ((vp r8.2 ([[97,59,113,61,50],[97,59,113,61,48,46,49,50,51,52],[97,59,113,61,49,59,113,61,49],[97,32,98],[97,59],[97,59,98],[97,59,98,61],[97,47,98,47,99],[97,59,120,61,34,121],[97,59,120,61,34,92,122,34],[47,97],[97,59,113,61,46,53],[32,97],[97,59,113,61,49,46,49]])).bind fun r11=>Yr r11.1 r11.2.L r11.2.at_) else (Yr r6.1 r8.2.L r8.2.at_)
noncomputable def z1o (s1:zz) (low2:Int) (high3:Int):Option (Int×zz):=
 (xj s1 12).bind fun r4=>if r4.1 then ((xi r4.2 [wr (low2 - 1),wr (high3+1),low2,high3,(-1099511627776),1099511627776]).bind fun r7=>some (r7.1,r7.2)) else ((Yb r4.2 low2 high3).bind fun r9=>some (r9.1,r9.2))
noncomputable def ui (v36:(List zg)) (c37:(List Int)) (c38:Int):Option ((List zg)×zz):=
 some (v36,(zz.mk c37 c38))
noncomputable def Ys (l6:(List zg)) (v15:Bool) (c16:(List Int)) (c17:Int):Option ((List zg)×zz):=
 if v15 then ((vq (zz.mk c16 c17) (l6.length:Int)).bind fun r19=>(at? l6 r19.1).bind fun (x21:zg)=>(vq r19.2 3).bind fun r23=>if decide (r23.1=0) then ((vp r23.2 ([[],[97,32,98],[97,47,98,47,99],[47]])).bind fun r26=>ui (l6.set r19.1.toNat (zg.mk r26.1 x21.Params x21.Quality)) r26.2.L r26.2.at_) else (if decide (r23.1=1) then ((z1o r23.2 0 1000).bind fun r29=>ui (l6.set r19.1.toNat (zg.mk x21.Words x21.Params r29.1)) r29.2.L r29.2.at_) else ((vp r23.2 ([[113],[81],[],[97,32,98],[120]])).bind fun r31=>(vp r31.2 ([[49],[127],[10]])).bind fun r33=>if x21.Params.length+1≤1000000000 then (ui (l6.set r19.1.toNat (zg.mk x21.Words (x21.Params++[(zt.mk r31.1 r33.1)]) x21.Quality)) r33.2.L r33.2.at_) else none))) else (ui l6 c16 c17)
noncomputable def z4v (k49:Nat) (l46:(List zt)) (c47:(List Int)) (c48:Int):Option (((List zt)×(List Int)×Int) ⊕ (((List Int)×Int×(List zg)) ⊕ ((List zg)×zz))):=
 (vp (zz.mk c47 c48) ([[120],[121],[90]])).bind fun r54=>(vp r54.2 ([[49],[],[97,32,98],[113,34,114],[92],[120,44,121]])).bind fun r56=>if l46.length+1≤1000000000 then (some (.inl ((l46++[(zt.mk r54.1 r56.1)]),r56.2.L,r56.2.at_))) else none
noncomputable def z4x (l6:(List zg)) (r40:(Bs×zz)) (r42:(Int×zz)) (l46:(List zt)) (c47:(List Int)) (c48:Int):Option (((List Int)×Int×(List zg)) ⊕ ((List zg)×zz)):=
 if l6.length+1≤1000000000 then (some (.inl (c47,c48,(l6++[(zg.mk r40.1 l46 r42.1)])))) else none
noncomputable def z4w (k7:Nat) (c4:(List Int)) (c5:Int) (l6:(List zg)):Option (((List Int)×Int×(List zg)) ⊕ ((List zg)×zz)):=
 (vp (zz.mk c4 c5) ([[97],[116,101,120,116,47,104,116,109,108],[42,47,42],[100,101]])).bind fun r40=>(xi r40.2 [1000,1000,0,500,250,125,10,999]).bind fun r42=>(xi r42.2 [0,0,1,2]).bind fun r44=>if r44.1≤1000000000 then rng (fun (k:Nat) (s:(List zt)×(List Int)×Int)=>z4v k s.1 s.2.1 s.2.2) (fun (s:(List zt)×(List Int)×Int)=>z4x l6 r40 r42 s.1 s.2.1 s.2.2) r44.1.toNat 0 (([]:List zt),r44.2.L,r44.2.at_) else none
noncomputable def z4y (c4:(List Int)) (c5:Int) (l6:(List zg)):Option ((List zg)×zz):=
 if decide (0 < (l6.length:Int)) then ((xj (zz.mk c4 c5) 8).bind fun r12=>Ys l6 r12.1 r12.2.L r12.2.at_) else (Ys l6 false c4 c5)
noncomputable def z1q (s1:zz):Option ((List zg)×zz):=
 (Yb s1 0 4).bind fun r2=>if r2.1≤1000000000 then rng (fun (k:Nat) (s:(List Int)×Int×(List zg))=>z4w k s.1 s.2.1 s.2.2) (fun (s:(List Int)×Int×(List zg))=>z4y s.1 s.2.1 s.2.2) r2.1.toNat 0 (r2.2.L,r2.2.at_,[]) else none
noncomputable def Qs (v13:Bool):Option (Unit ⊕ (Bool)):=
 if v13 then (some (.inr false)) else (some (.inl ()))
noncomputable def z3j (low2:Int) (high3:Int) (k4:Nat) (x7:UInt8):Option (Unit ⊕ (Bool)):=
 if decide ((x7.toNat:Int) < low2) then (Qs true) else (Qs (decide (high3 < (x7.toNat:Int))))
noncomputable def z3k:Option (Bool):=
 some true
noncomputable def xe (s1:Bs) (low2:Int) (high3:Int):Option (Bool):=
 if s1.length≤1000000000 then forL (fun (k:Nat) (x:UInt8) (s:Unit)=>z3j low2 high3 k x) (fun (s:Unit)=>z3k) 0 s1 () else none
noncomputable def z0q (s14:Bs):Option (Bs):=
 some s14
noncomputable def Zc (s3:Bs) (v10:Bool):Option (Bs ⊕ (Bs)):=
 if v10 then ((sub? s3 0 (wr ((s3.length:Int) - 1))).bind fun (l12:Bs)=>some (.inl l12)) else (Option.map .inr (z0q s3))
noncomputable def z0p (c2:Int) (s3:Bs):Option (Bs ⊕ (Bs)):=
 if decide (0 < (s3.length:Int)) then ((at? s3 (wr ((s3.length:Int) - 1))).bind fun (x7:UInt8)=>Zc s3 (decide ((x7.toNat:Int)=c2))) else (Zc s3 false)
noncomputable def ub (s1:Bs) (c2:Int):Option (Bs):=
 iter (fun (s:Bs)=>z0p c2 s) s1
noncomputable def z0s (s14:Bs):Option (Bs):=
 some s14
noncomputable def Zd (s3:Bs) (v10:Bool):Option (Bs ⊕ (Bs)):=
 if v10 then ((sub? s3 1 (s3.length:Int)).bind fun (l12:Bs)=>some (.inl l12)) else (Option.map .inr (z0s s3))
noncomputable def z0r (c2:Int) (s3:Bs):Option (Bs ⊕ (Bs)):=
 if decide (0 < (s3.length:Int)) then ((s3[0]?).bind fun (x7:UInt8)=>Zd s3 (decide ((x7.toNat:Int)=c2))) else (Zd s3 false)
noncomputable def xc (s1:Bs) (c2:Int):Option (Bs):=
 iter (fun (s:Bs)=>z0r c2 s) s1
noncomputable def Qd (s1:Bs) (cutset2:Bs) (v9:Bool):Option (Bs):=
 if v9 then ((cutset2[0]?).bind fun (x11:UInt8)=>(ub s1 (x11.toNat:Int)).bind fun r13=>(xc r13 (x11.toNat:Int)).bind fun r15=>some r15) else none
noncomputable def Wa (s1:Bs) (cutset2:Bs):Option (Bs):=
 if ((decide (s1=[])) || (decide (cutset2=[]))) then some s1 else (if decide ((cutset2.length:Int)=1) then ((cutset2[0]?).bind fun (x6:UInt8)=>Qd s1 cutset2 (decide ((x6.toNat:Int) < 128))) else (Qd s1 cutset2 false))
noncomputable def Zs (v12:Bool):Option (Bool):=
 some v12
noncomputable def Wh (s1:Bs):Option (Bool):=
 if decide ((s1.length:Int)≤2000) then ((xe s1 32 126).bind fun r4=>if r4 then ((Wa s1 [32]).bind fun r8=>Zs (decide (r8=s1))) else (Zs false)) else (Zs false)
noncomputable def Zj (s1:zm) (c2:Int) (v9:Bool):Option (Int ⊕ (zm)):=
 if v9 then (some (.inl (wr (c2+1)))) else (some (.inr (zm.mk s1.s_ c2 s1.bad_)))
noncomputable def kb (s1:zm) (c2:Int):Option (Int ⊕ (zm)):=
 if decide (c2 < (s1.s_.length:Int)) then ((at? s1.s_ c2).bind fun (x6:UInt8)=>Zj s1 c2 (decide ((x6.toNat:Int)=32))) else (Zj s1 c2 false)
noncomputable def xd (s1:zm):Option (zm):=
 iter (fun (s:Int)=>kb s1 s) s1.i_
noncomputable def Qn (s1:zm) (v8:Bool):Option (Bool×zm):=
 if v8 then (some (true,(zm.mk s1.s_ (wr (s1.i_+1)) s1.bad_))) else (some (false,s1))
noncomputable def kr (s1:zm) (c2:Int):Option (Bool×zm):=
 if decide (s1.i_ < (s1.s_.length:Int)) then ((at? s1.s_ s1.i_).bind fun (x5:UInt8)=>Qn s1 (decide ((x5.toNat:Int)=c2))) else (Qn s1 false)
noncomputable def z3x (c1:Int):Option (Bool):=
 some (((decide (97≤c1)) && (decide (c1≤122))) || ((decide (65≤c1)) && (decide (c1≤90))))
noncomputable def z1a (c1:Int):Option (Bool):=
 some ((decide (48≤c1)) && (decide (c1≤57)))
noncomputable def Qr (v14:Bool):Option (Bool):=
 some v14
noncomputable def Wd (c1:Int):Option (Bool):=
 (z3x c1).bind fun r2=>if r2 then (Qr true) else ((z1a c1).bind fun r6=>if r6 then (Qr true) else ((z06 [33,35,36,37,38,39,42,43,45,46,94,95,96,124,126] c1).bind fun r10=>Qr (decide (0≤r10))))
noncomputable def z3n (k2:Nat) (x5:UInt8):Option (Unit ⊕ (Bool)):=
 (Wd (x5.toNat:Int)).bind fun r8=>if !r8 then (some (.inr false)) else (some (.inl ()))
noncomputable def z6c (s1:Bs):Option (Bool):=
 some ((decide (s1≠[])) && (decide ((s1.length:Int)≤100)))
noncomputable def ud (s1:Bs):Option (Bool):=
 if s1.length≤1000000000 then forL (fun (k:Nat) (x:UInt8) (s:Unit)=>z3n k x) (fun (s:Unit)=>z6c s1) 0 s1 () else none
noncomputable def Ql (s1:zm) (c13:Int) (l14:Bs) (c21:Bool):Option (Bs×zm):=
 some (l14,(zm.mk s1.s_ c13 c21))
noncomputable def uw (s1:zm) (c13:Int):Option (Bs×zm):=
 (sub? s1.s_ s1.i_ c13).bind fun (l14:Bs)=>if s1.bad_ then (Ql s1 c13 l14 true) else ((ud l14).bind fun r18=>Ql s1 c13 l14 (!r18))
noncomputable def Zi (s1:zm) (c2:Int) (v11:Bool):Option (Int ⊕ (Bs×zm)):=
 if v11 then (some (.inl (wr (c2+1)))) else (Option.map .inr (uw s1 c2))
noncomputable def ka (s1:zm) (c2:Int):Option (Int ⊕ (Bs×zm)):=
 if decide (c2 < (s1.s_.length:Int)) then ((at? s1.s_ c2).bind fun (x6:UInt8)=>(Wd (x6.toNat:Int)).bind fun r8=>Zi s1 c2 r8) else (Zi s1 c2 false)
noncomputable def Zy (s1:zm):Option (Bs×zm):=
 iter (fun (s:Int)=>ka s1 s) s1.i_
noncomputable def uy (s1:zm) (c25:Int):Option (Bs×zm):=
 some ([],(zm.mk s1.s_ c25 true))
noncomputable def Zk (l3:(List Int)) (v22:Int) (c23:Int):Option ((Int×(List Int)) ⊕ (Bs×zm)):=
 if l3.length+1≤1000000000 then (some (.inl (c23,(l3++[v22])))) else none
noncomputable def ux (s1:zm) (c2:Int) (l3:(List Int)) (v18:Bool):Option ((Int×(List Int)) ⊕ (Bs×zm)):=
 if v18 then (Option.map .inr (uy s1 (wr (c2+1)))) else ((at? s1.s_ (wr (c2+1))).bind fun (x20:UInt8)=>Zk l3 (x20.toNat:Int) (wr ((wr (c2+1))+1)))
noncomputable def wt (s1:zm) (c2:Int) (l3:(List Int)):Option ((Int×(List Int)) ⊕ (Bs×zm)):=
 if decide (c2 < (s1.s_.length:Int)) then ((at? s1.s_ c2).bind fun (x6:UInt8)=>if decide ((x6.toNat:Int)=34) then (some (.inr ((strN l3),(zm.mk s1.s_ (wr (c2+1)) s1.bad_)))) else (if decide ((x6.toNat:Int)=92) then (if decide ((wr (c2+1))=(s1.s_.length:Int)) then (ux s1 c2 l3 true) else ((at? s1.s_ (wr (c2+1))).bind fun (x12:UInt8)=>if decide ((x12.toNat:Int)≠34) then (ux s1 c2 l3 (decide ((x12.toNat:Int)≠92))) else (ux s1 c2 l3 false))) else (Zk l3 (x6.toNat:Int) (wr (c2+1))))) else (Option.map .inr (uy s1 c2))
noncomputable def z3u (s1:zm):Option (Bs×zm):=
 iter (fun (s:Int×(List Int))=>wt s1 s.1 s.2) (s1.i_,[])
noncomputable def We (name1:Bs):Option (Bool):=
 some ((decide (name1=[113])) || (decide (name1=[81])))
noncomputable def vd (c1:Int):Option (Int):=
 some (or_ .u8 c1 32)
noncomputable def Wp (v47:Int) (v85:Int):Option ((Int×Int) ⊕ (Bool)):=
 some (.inl (v85,wr (v47+1)))
noncomputable def ku (v14:Bs) (v46:Int) (v47:Int) (v78:Bool):Option ((Int×Int) ⊕ (Bool)):=
 if v78 then (Wp v47 48) else ((at? v14 v47).bind fun (x80:UInt8)=>if decide ((x80.toNat:Int)=95) then (if decide (v46≠48) then (some (.inr false)) else (Wp v47 95)) else (if decide (v46=95) then (some (.inr false)) else (Wp v47 33)))
noncomputable def z4m (v86:Int):Option (Bool):=
 some (decide (v86≠95))
noncomputable def z63 (v14:Bs) (v45:Bool) (v46:Int) (v47:Int):Option ((Int×Int) ⊕ (Bool)):=
 if decide (v47 < (v14.length:Int)) then ((at? v14 v47).bind fun (x50:UInt8)=>if decide (48≤(x50.toNat:Int)) then (if decide ((x50.toNat:Int)≤57) then (ku v14 v46 v47 true) else (if v45 then ((vd (x50.toNat:Int)).bind fun r58=>if decide (97≤r58) then ((vd (x50.toNat:Int)).bind fun r62=>ku v14 v46 v47 (decide (r62≤102))) else (ku v14 v46 v47 false)) else (ku v14 v46 v47 false))) else (if v45 then ((vd (x50.toNat:Int)).bind fun r70=>if decide (97≤r70) then ((vd (x50.toNat:Int)).bind fun r74=>ku v14 v46 v47 (decide (r74≤102))) else (ku v14 v46 v47 false)) else (ku v14 v46 v47 false))) else (Option.map .inr (z4m v46))
noncomputable def z1z (v14:Bs) (v43:Int) (v44:Int) (v45:Bool):Option (Bool):=
 iter (fun (s:Int×Int)=>z63 v14 v45 s.1 s.2) (v43,v44)
noncomputable def xl (v14:Bs) (v37:Bool):Option (Bool):=
 if v37 then ((v14[1]?).bind fun (x39:UInt8)=>(vd (x39.toNat:Int)).bind fun r41=>z1z v14 48 2 (decide (r41=120))) else (z1z v14 94 0 false)
noncomputable def z10 (v14:Bs):Option (Bool):=
 if decide (2≤(v14.length:Int)) then ((v14[0]?).bind fun (x17:UInt8)=>if decide ((x17.toNat:Int)=48) then ((v14[1]?).bind fun (x21:UInt8)=>(vd (x21.toNat:Int)).bind fun r23=>if decide (r23=98) then (xl v14 true) else ((vd (x21.toNat:Int)).bind fun r27=>if decide (r27=111) then (xl v14 true) else ((vd (x21.toNat:Int)).bind fun r31=>xl v14 (decide (r31=120))))) else (xl v14 false)) else (xl v14 false)
noncomputable def Wq (v1:Bs) (v10:Bool):Option (Bool):=
 if v10 then ((sub? v1 1 (v1.length:Int)).bind fun (l12:Bs)=>z10 l12) else (z10 v1)
noncomputable def z6p (v1:Bs):Option (Bool):=
 if decide (1≤(v1.length:Int)) then ((v1[0]?).bind fun (x4:UInt8)=>if decide ((x4.toNat:Int)=45) then (Wq v1 true) else (Wq v1 (decide ((x4.toNat:Int)=43)))) else (Wq v1 false)
noncomputable def z11 (v87:Bool) (v88:Int):Option ((Bool×Int) ⊕ (Int×Int)):=
 some (.inl (v87,v88))
noncomputable def z18 (v46:Int) (v49:Int) (v53:Int) (v55:Bool) (v56:Int) (v83:Int):Option ((Bool×Int) ⊕ (Int×Int)):=
 if decide ((IntKind.wrap .u8 v46)≤v83) then (some (.inr (0,2))) else (if decide (v53≤v56) then (some (.inr (IntKind.wrap .u64 ((shl_ .u64 1 (IntKind.wrap .u64 v49)) - 1),1))) else (if ((decide ((IntKind.wrap .u64 ((IntKind.wrap .u64 (v56 * (IntKind.wrap .u64 v46)))+(IntKind.wrap .u64 v83))) < (IntKind.wrap .u64 (v56 * (IntKind.wrap .u64 v46))))) || (decide ((IntKind.wrap .u64 ((shl_ .u64 1 (IntKind.wrap .u64 v49)) - 1)) < (IntKind.wrap .u64 ((IntKind.wrap .u64 (v56 * (IntKind.wrap .u64 v46)))+(IntKind.wrap .u64 v83)))))) then (some (.inr (IntKind.wrap .u64 ((shl_ .u64 1 (IntKind.wrap .u64 v49)) - 1),1))) else (z11 v55 (IntKind.wrap .u64 ((IntKind.wrap .u64 (v56 * (IntKind.wrap .u64 v46)))+(IntKind.wrap .u64 v83))))))
noncomputable def z17 (v46:Int) (v49:Int) (v53:Int) (v55:Bool) (v56:Int) (x60:Int) (v79:Bool):Option ((Bool×Int) ⊕ (Int×Int)):=
 if v79 then ((vd x60).bind fun r81=>z18 v46 v49 v53 v55 v56 (IntKind.wrap .u8 ((IntKind.wrap .u8 (r81 - 97))+10))) else (some (.inr (0,2)))
noncomputable def z64 (v2:Int) (v46:Int) (v49:Int) (v53:Int) (k57:Nat) (x60:Int) (v55:Bool) (v56:Int):Option ((Bool×Int) ⊕ (Int×Int)):=
 if ((decide (x60=95)) && (decide (v2=0))) then (z11 true v56) else (if ((decide (48≤x60)) && (decide (x60≤57))) then (z18 v46 v49 v53 v55 v56 (IntKind.wrap .u8 (x60 - 48))) else ((vd x60).bind fun r72=>if decide (97≤r72) then ((vd x60).bind fun r76=>z17 v46 v49 v53 v55 v56 x60 (decide (r76≤122))) else (z17 v46 v49 v53 v55 v56 x60 false)))
noncomputable def z12 (v56:Int) (v66:Bool):Option (Int×Int):=
 if v66 then (some (0,2)) else (some (v56,0))
noncomputable def z65 (v1:Bs) (v55:Bool) (v56:Int):Option (Int×Int):=
 if v55 then ((z6p v1).bind fun r63=>z12 v56 (!r63)) else (z12 v56 false)
noncomputable def Wr (v1:Bs) (v2:Int) (v45:Bs) (v46:Int) (v49:Int) (v53:Int):Option (Int×Int):=
 if (0:Int)≤(IntKind.wrap .u64 v49) then (if (yl v45).length≤1000000000 then forL (fun (k:Nat) (x:Int) (s:Bool×Int)=>z64 v2 v46 v49 v53 k x s.1 s.2) (fun (s:Bool×Int)=>z65 v1 s.1 s.2) 0 (yl v45) (false,0) else none) else none
noncomputable def z13 (v1:Bs) (v2:Int) (v45:Bs) (v46:Int) (v49:Int):Option (Int×Int):=
 if decide (v46=10) then (Wr v1 v2 v45 v46 v49 1844674407370955162) else (if decide (v46=16) then (Wr v1 v2 v45 v46 v49 1152921504606846976) else (if (IntKind.wrap .u64 v46)≠0 then (Wr v1 v2 v45 v46 v49 (IntKind.wrap .u64 ((IntKind.wrap .u64 (Int.tdiv 18446744073709551615 (IntKind.wrap .u64 v46)))+1))) else none))
noncomputable def uh (v1:Bs) (v2:Int) (v3:Int) (v45:Bs) (v46:Int):Option (Int×Int):=
 if decide (v3=0) then (z13 v1 v2 v45 v46 64) else (if ((decide (v3 < 0)) || (decide (64 < v3))) then (some (0,4)) else (z13 v1 v2 v45 v46 v3))
noncomputable def z14 (v1:Bs) (v2:Int) (v3:Int) (v39:Bool):Option (Int×Int):=
 if v39 then ((sub? v1 2 (v1.length:Int)).bind fun (l41:Bs)=>uh v1 v2 v3 l41 16) else ((sub? v1 1 (v1.length:Int)).bind fun (l43:Bs)=>uh v1 v2 v3 l43 8)
noncomputable def z15 (v1:Bs) (v2:Int) (v3:Int) (v28:Bool):Option (Int×Int):=
 if v28 then ((sub? v1 2 (v1.length:Int)).bind fun (l30:Bs)=>uh v1 v2 v3 l30 8) else (if decide (3≤(v1.length:Int)) then ((v1[1]?).bind fun (x34:UInt8)=>(vd (x34.toNat:Int)).bind fun r36=>z14 v1 v2 v3 (decide (r36=120))) else (z14 v1 v2 v3 false))
noncomputable def z16 (v1:Bs) (v2:Int) (v3:Int) (v17:Bool):Option (Int×Int):=
 if v17 then ((sub? v1 2 (v1.length:Int)).bind fun (l19:Bs)=>uh v1 v2 v3 l19 2) else (if decide (3≤(v1.length:Int)) then ((v1[1]?).bind fun (x23:UInt8)=>(vd (x23.toNat:Int)).bind fun r25=>z15 v1 v2 v3 (decide (r25=111))) else (z15 v1 v2 v3 false))
noncomputable def z32 (v1:Bs) (v2:Int) (v3:Int):Option (Int×Int):=
 if decide (v1=[]) then (some (0,2)) else (if ((decide (2≤v2)) && (decide (v2≤36))) then (uh v1 v2 v3 v1 v2) else (if decide (v2=0) then ((v1[0]?).bind fun (x7:UInt8)=>if decide ((x7.toNat:Int)=48) then (if decide (3≤(v1.length:Int)) then ((v1[1]?).bind fun (x12:UInt8)=>(vd (x12.toNat:Int)).bind fun r14=>z16 v1 v2 v3 (decide (r14=98))) else (z16 v1 v2 v3 false)) else (uh v1 v2 v3 v1 10)) else (some (0,3))))
noncomputable def z19 (v29:Int):Option (Int×Int):=
 some (v29,0)
noncomputable def z2a (v14:Bool) (r15:(Int×Int)) (v24:Int):Option (Int×Int):=
 if (0:Int)≤(IntKind.wrap .u64 (wr (v24 - 1))) then (if ((!v14) && (decide ((shl_ .u64 1 (IntKind.wrap .u64 (wr (v24 - 1))))≤r15.1))) then (some (IntKind.wrap .i64 (IntKind.wrap .u64 ((shl_ .u64 1 (IntKind.wrap .u64 (wr (v24 - 1)))) - 1)),1)) else (if (v14 && (decide ((shl_ .u64 1 (IntKind.wrap .u64 (wr (v24 - 1)))) < r15.1))) then (some ((wr (-(IntKind.wrap .i64 (shl_ .u64 1 (IntKind.wrap .u64 (wr (v24 - 1))))))),1)) else (if v14 then (z19 (wr (-(IntKind.wrap .i64 r15.1)))) else (z19 (IntKind.wrap .i64 r15.1))))) else none
noncomputable def z2b (v3:Int) (v14:Bool) (r15:(Int×Int)) (v21:Bool):Option (Int×Int):=
 if v21 then (some (0,r15.2)) else (if decide (v3=0) then (z2a v14 r15 64) else (z2a v14 r15 v3))
noncomputable def Ws (v2:Int) (v3:Int) (v13:Bs) (v14:Bool):Option (Int×Int):=
 (z32 v13 v2 v3).bind fun r15=>if decide (r15.2≠0) then (if (0:Int)≤r15.2∧r15.2≤(4:Int) then (z2b v3 v14 r15 (decide (r15.2≠1))) else none) else (z2b v3 v14 r15 false)
noncomputable def z6q (v1:Bs) (v2:Int) (v3:Int):Option (Int×Int):=
 if decide (v1=[]) then (some (0,2)) else ((v1[0]?).bind fun (x5:UInt8)=>if decide ((x5.toNat:Int)=43) then ((sub? v1 1 (v1.length:Int)).bind fun (l8:Bs)=>Ws v2 v3 l8 false) else (if decide ((x5.toNat:Int)=45) then ((sub? v1 1 (v1.length:Int)).bind fun (l11:Bs)=>Ws v2 v3 l11 true) else (Ws v2 v3 v1 false)))
noncomputable def Wt (k15:Nat) (x18:Int) (v14:Int):Option (Int ⊕ (Int×Int)):=
 if decide (9 < (IntKind.wrap .u8 (x18 - 48))) then (some (.inr (0,2))) else (some (.inl (wr ((wr (v14 * 10))+(IntKind.wrap .i64 (IntKind.wrap .u8 (x18 - 48)))))))
noncomputable def Yf (v23:Int):Option (Int×Int):=
 some (v23,0)
noncomputable def Yi (v1:Bs) (v14:Int):Option (Int×Int):=
 (v1[0]?).bind fun (x19:UInt8)=>if decide ((x19.toNat:Int)=45) then (if -9223372036854775807≤v14∧v14≤9223372036854775807 then (Yf (-v14)) else none) else (Yf v14)
noncomputable def Yh (v1:Bs) (v13:Bs):Option (Int×Int):=
 if (yl v13).length≤1000000000 then forL (fun (k:Nat) (x:Int) (s:Int)=>Wt k x s) (fun (s:Int)=>Yi v1 s) 0 (yl v13) 0 else none
noncomputable def Yg (v1:Bs) (v8:Bool):Option (Int×Int):=
 if v8 then ((sub? v1 1 (v1.length:Int)).bind fun (l10:Bs)=>if decide ((l10.length:Int) < 1) then (some (0,2)) else (Yh v1 l10)) else (Yh v1 v1)
noncomputable def Zz (v1:Bs):Option (Int×Int):=
 if ((false && ((decide (0 < (v1.length:Int))) && (decide ((v1.length:Int) < 10)))) || (true && ((decide (0 < (v1.length:Int))) && (decide ((v1.length:Int) < 19))))) then ((v1[0]?).bind fun (x3:UInt8)=>if decide ((x3.toNat:Int)=45) then (Yg v1 true) else (Yg v1 (decide ((x3.toNat:Int)=43)))) else ((z6q v1 10 0).bind fun r27=>some (r27.1,r27.2))
noncomputable def jr (s1:Bs):Option (Int×Int):=
 (Zz s1).bind fun r2=>if decide (r2.2≠0) then ((z6i [65,116,111,105] s1 0 0 r2.2).bind fun r5=>some (r2.1,r5)) else (some (r2.1,0))
noncomputable def z1v (v29:Bool):Option (Unit ⊕ (Int×Bool)):=
 if v29 then (some (.inr (0,false))) else (some (.inl ()))
noncomputable def z1u (i18:Nat) (x21:UInt8):Option (Unit ⊕ (Int×Bool)):=
 if decide ((x21.toNat:Int) < 48) then (z1v true) else (z1v (decide (57 < (x21.toNat:Int))))
noncomputable def Wj (s1:Bs):Option (Int×Bool):=
 (jr s1).bind fun r22=>some (r22.1,decide (r22.2=0))
noncomputable def vr (s1:Bs) (r3:(Bs)) (v16:Bool):Option (Int×Bool):=
 if v16 then (some (0,false)) else (if r3.length≤1000000000 then forL (fun (k:Nat) (x:UInt8) (s:Unit)=>z1u k x) (fun (s:Unit)=>Wj s1) 0 r3 () else none)
noncomputable def z1g (s1:Bs) (most2:Int):Option (Int×Bool):=
 (z3o s1 [45]).bind fun r3=>if decide (r3=[]) then (vr s1 r3 true) else (if decide (most2 < (r3.length:Int)) then (vr s1 r3 true) else ((r3[0]?).bind fun (x9:UInt8)=>if decide ((x9.toNat:Int)=48) then (vr s1 r3 (decide (s1≠[48]))) else (vr s1 r3 false)))
noncomputable def z30 (s1:Bs):Option (Int×Bool):=
 (z1g s1 9).bind fun r2=>some (r2.1,r2.2)
noncomputable def z1f (n1:Int) (low2:Int) (high3:Int):Option (Bool):=
 some ((decide (n1 < low2)) || (decide (high3 < n1)))
noncomputable def Zh (n34:Int):Option (Int×Bool):=
 some (n34,decide (n34≤1000))
noncomputable def jp (r2:(Bs×Bs×Bool)) (r4:(Int×Bool)) (v25:Bool):Option (Int×Bool):=
 if v25 then (some (0,false)) else (if r2.2.2 then (if r2.2.1.length+[48,48].length≤1000000000 then ((sub? (r2.2.1++[48,48]) 0 3).bind fun (l29:Bs)=>(jr l29).bind fun r31=>if decide (r31.2≠0) then (some (0,false)) else (Zh (wr ((wr (r4.1 * 1000))+r31.1)))) else none) else (Zh (wr (r4.1 * 1000))))
noncomputable def Zx (s1:Bs):Option (Int×Bool):=
 (uc s1 [46]).bind fun r2=>(z30 r2.1).bind fun r4=>if !r4.2 then (jp r2 r4 true) else ((z1f r4.1 0 1).bind fun r8=>if r8 then (jp r2 r4 true) else (if r2.2.2 then (if decide (r2.2.1=[]) then (jp r2 r4 true) else (if decide (3 < (r2.2.1.length:Int)) then (jp r2 r4 true) else ((Qz r2.2.1 [48,49,50,51,52,53,54,55,56,57]).bind fun r18=>jp r2 r4 (decide (r18≠[]))))) else (jp r2 r4 false)))
noncomputable def Qm (v63:Bool) (c64:Bs) (c65:Int) (c66:Bool) (l67:(List zt)) (c68:Int):Option ((Bool×(List zt)×Bs×Int×Bool×Int) ⊕ (zg×zm)):=
 (xd (zm.mk c64 c65 c66)).bind fun r69=>some (.inl (v63,l67,r69.s_,r69.i_,r69.bad_,c68))
noncomputable def xa (v17:Bool) (l18:(List zt)) (c22:Int) (r36:(Bs×zm)) (r46:(Bool×zm)) (v53:Bs) (c54:Bs) (c55:Int) (c56:Bool):Option ((Bool×(List zt)×Bs×Int×Bool×Int) ⊕ (zg×zm)):=
 (We r36.1).bind fun r57=>if !r57 then (if l18.length+1≤1000000000 then (Qm v17 c54 c55 c56 (l18++[(zt.mk r36.1 v53)]) c22) else none) else ((Zx v53).bind fun r61=>Qm true c54 c55 (((c56 || v17) || r46.1) || (!r61.2)) l18 r61.1)
noncomputable def ko (v17:Bool) (l18:(List zt)) (c22:Int) (r36:(Bs×zm)) (c43:Bs) (c44:Int) (c45:Bool):Option ((Bool×(List zt)×Bs×Int×Bool×Int) ⊕ (zg×zm)):=
 (kr (zm.mk c43 c44 c45) 34).bind fun r46=>if r46.1 then ((z3u r46.2).bind fun r49=>xa v17 l18 c22 r36 r46 r49.1 r49.2.s_ r49.2.i_ r49.2.bad_) else ((Zy r46.2).bind fun r51=>xa v17 l18 c22 r36 r46 r51.1 r51.2.s_ r51.2.i_ r51.2.bad_)
noncomputable def z3h (c14:Bs) (c71:Bs) (c72:Int) (c73:Bool) (l74:(List zt)) (c75:Int):Option (zg×zm):=
 some ((zg.mk c14 l74 c75),(zm.mk c71 c72 c73))
noncomputable def kq (c14:Bs) (v17:Bool) (l18:(List zt)) (c22:Int) (v29:Bool) (c30:Bs) (c31:Int) (c32:Bool):Option ((Bool×(List zt)×Bs×Int×Bool×Int) ⊕ (zg×zm)):=
 if v29 then ((xd (zm.mk c30 c31 c32)).bind fun r34=>(Zy r34).bind fun r36=>if r36.2.bad_ then (ko v17 l18 c22 r36 r36.2.s_ r36.2.i_ true) else ((kr r36.2 61).bind fun r40=>ko v17 l18 c22 r36 r40.2.s_ r40.2.i_ (!r40.1))) else (Option.map .inr (z3h c14 c30 c31 c32 l18 c22))
noncomputable def uz (c14:Bs) (v17:Bool) (l18:(List zt)) (c19:Bs) (c20:Int) (c21:Bool) (c22:Int):Option ((Bool×(List zt)×Bs×Int×Bool×Int) ⊕ (zg×zm)):=
 if !c21 then ((kr (zm.mk c19 c20 c21) 59).bind fun r26=>kq c14 v17 l18 c22 r26.1 r26.2.s_ r26.2.i_ r26.2.bad_) else (kq c14 v17 l18 c22 false c19 c20 c21)
noncomputable def Zl (c11:Bs) (c12:Int) (c13:Bool) (c14:Bs):Option (zg×zm):=
 (xd (zm.mk c11 c12 c13)).bind fun r15=>iter (fun (s:Bool×(List zt)×Bs×Int×Bool×Int)=>uz c14 s.1 s.2.1 s.2.2.1 s.2.2.2.1 s.2.2.2.2.1 s.2.2.2.2.2) (false,([]:List zt),r15.s_,r15.i_,r15.bad_,1000)
noncomputable def Wc (s1:zm):Option (zg×zm):=
 (Zy s1).bind fun r2=>(kr r2.2 47).bind fun r4=>if r4.1 then ((Zy r4.2).bind fun r7=>if [47].length+r7.1.length≤1000000000 then (if r2.1.length+([47]++r7.1).length≤1000000000 then (Zl r7.2.s_ r7.2.i_ r7.2.bad_ (r2.1++([47]++r7.1))) else none) else none) else (Zl r4.2.s_ r4.2.i_ r4.2.bad_ r2.1)
noncomputable def z5r (p1:zg→Option (Bool)) (k2:Nat) (x5:zg):Option (Unit ⊕ (Int)):=
 (p1 x5).bind fun r8=>if r8 then (some (.inr (k2:Int))) else (some (.inl ()))
noncomputable def z5s:Option (Int):=
 some (-1)
noncomputable def z6k (s1:(List zg)) (p1:zg→Option (Bool)):Option (Int):=
 if s1.length≤1000000000 then forL (fun (k:Nat) (x:zg) (s:Unit)=>z5r p1 k x) (fun (s:Unit)=>z5s) 0 s1 () else none
noncomputable def ke (s1:(List zg)) (p1:zg→Option (Bool)):Option (Bool):=
 (z6k s1 p1).bind fun r2=>some (decide (0≤r2))
noncomputable def z1b (it1:zg):Option (Bool):=
 some (decide (100 < (it1.Params.length:Int)))
noncomputable def jg (v27:(List zg)) (c28:Bs) (c29:Int) (c30:Bool):Option ((Bs×Int×Bool×(List zg)) ⊕ ((List zg)×Int)):=
 (xd (zm.mk c28 c29 c30)).bind fun r31=>some (.inl (r31.s_,r31.i_,r31.bad_,v27))
noncomputable def Qu (v33:(List zg)) (v43:Bool):Option ((List zg)×Int):=
 if v43 then (some ([],2)) else (some (v33,0))
noncomputable def Zr (v33:(List zg)) (c34:Bs) (c35:Int) (c36:Bool):Option ((List zg)×Int):=
 if c36 then (some ([],9)) else (if decide (50 < (v33.length:Int)) then (Qu v33 true) else ((ke v33 (fun (a0:zg)=>z1b a0)).bind fun r40=>Qu v33 r40))
noncomputable def jq (v1:Bs) (c7:Bs) (c8:Int) (c9:Bool) (l10:(List zg)):Option ((Bs×Int×Bool×(List zg)) ⊕ ((List zg)×Int)):=
 if ((decide (c8 < (v1.length:Int))) && (!c9)) then ((kr (zm.mk c7 c8 c9) 44).bind fun r13=>if r13.1 then (jg l10 r13.2.s_ r13.2.i_ r13.2.bad_) else ((Wc r13.2).bind fun r16=>if l10.length+1≤1000000000 then (if r16.2.bad_ then (jg (l10++[r16.1]) r16.2.s_ r16.2.i_ true) else (if decide (r16.2.i_ < (v1.length:Int)) then ((kr r16.2 44).bind fun r23=>jg (l10++[r16.1]) r23.2.s_ r23.2.i_ (!r23.1)) else (jg (l10++[r16.1]) r16.2.s_ r16.2.i_ false))) else none)) else (Option.map .inr (Zr l10 c7 c8 c9))
noncomputable def z1c (v1:Bs):Option ((List zg)×Int):=
 (Wh v1).bind fun r2=>if !r2 then (some ([],3)) else ((xd (zm.mk v1 0 false)).bind fun r5=>iter (fun (s:Bs×Int×Bool×(List zg))=>jq v1 s.1 s.2.1 s.2.2.1 s.2.2.2) (r5.s_,r5.i_,r5.bad_,[]))
noncomputable def z2d (v12:Bool):Option (Unit ⊕ (Bool)):=
 if v12 then (some (.inr false)) else (some (.inl ()))
noncomputable def z68 (low2:Int) (k3:Nat) (x6:UInt8):Option (Unit ⊕ (Bool)):=
 if decide ((x6.toNat:Int) < low2) then (z2d true) else (z2d (decide (126 < (x6.toNat:Int))))
noncomputable def z69:Option (Bool):=
 some true
noncomputable def z1h (s1:Bs) (low2:Int):Option (Bool):=
 if s1.length≤1000000000 then forL (fun (k:Nat) (x:UInt8) (s:Unit)=>z68 low2 k x) (fun (s:Unit)=>z69) 0 s1 () else none
noncomputable def z0e (v12:Bool):Option (Bool):=
 some v12
noncomputable def z35 (s1:Bs):Option (Bool):=
 if decide ((s1.length:Int)≤2000) then ((z1h s1 32).bind fun r4=>if r4 then ((Wa s1 [32]).bind fun r8=>z0e (decide (r8=s1))) else (z0e false)) else (z0e false)
noncomputable def Qf (s1:Bs) (cutset2:Bs) (v9:Bool):Option (Bs):=
 if v9 then ((cutset2[0]?).bind fun (x11:UInt8)=>(xc s1 (x11.toNat:Int)).bind fun r13=>some r13) else none
noncomputable def z3p (s1:Bs) (cutset2:Bs):Option (Bs):=
 if ((decide (s1=[])) || (decide (cutset2=[]))) then some s1 else (if decide ((cutset2.length:Int)=1) then ((cutset2[0]?).bind fun (x6:UInt8)=>Qf s1 cutset2 (decide ((x6.toNat:Int) < 128))) else (Qf s1 cutset2 false))
noncomputable def xg (s1:yb):Option (yb):=
 (z3p s1.s_ [32]).bind fun r2=>some (yb.mk r2)
noncomputable def Wv (s1:yb) (i6:Int):Option (Bs×yb):=
 (sub? s1.s_ 0 i6).bind fun (l7:Bs)=>(sub? s1.s_ i6 (s1.s_.length:Int)).bind fun (l9:Bs)=>some (l7,(yb.mk l9))
noncomputable def js (s1:yb) (some2:Bs):Option (Bs×yb):=
 (z3q s1.s_ some2).bind fun r3=>if decide (r3 < 0) then (Wv s1 (s1.s_.length:Int)) else (Wv s1 r3)
noncomputable def xh (n1:Int) (low2:Int) (high3:Int):Option (Bool):=
 some ((decide (low2≤n1)) && (decide (n1≤high3)))
noncomputable def z4p (some2:Bs) (k3:Nat) (x6:UInt8):Option (Unit ⊕ (Bool)):=
 (z06 some2 (x6.toNat:Int)).bind fun r9=>if decide (r9 < 0) then (some (.inr false)) else (some (.inl ()))
noncomputable def z7a:Option (Bool):=
 some true
noncomputable def ue (s1:Bs) (some2:Bs):Option (Bool):=
 if s1.length≤1000000000 then forL (fun (k:Nat) (x:UInt8) (s:Unit)=>z4p some2 k x) (fun (s:Unit)=>z7a) 0 s1 () else none
noncomputable def Wx (v9:Bool):Option (Bool):=
 some v9
noncomputable def kt (s1:Bs):Option (Bool):=
 (xh (s1.length:Int) 1 100).bind fun r2=>if r2 then ((ue s1 [97,98,99,100,101,102,103,104,105,106,107,108,109,110,111,112,113,114,115,116,117,118,119,120,121,122,65,66,67,68,69,70,71,72,73,74,75,76,77,78,79,80,81,82,83,84,85,86,87,88,89,90,48,49,50,51,52,53,54,55,56,57,33,35,36,37,38,39,42,43,45,46,94,95,96,124,126]).bind fun r6=>Wx r6) else (Wx false)
noncomputable def Yk (v14:Bool):Option (Bool):=
 some v14
noncomputable def Wi (s1:Bs):Option (Bool):=
 (uc s1 [47]).bind fun r2=>(kt r2.1).bind fun r4=>if r4 then (if !r2.2.2 then (Yk true) else ((kt r2.2.1).bind fun r10=>Yk r10)) else (Yk false)
noncomputable def Yl (l3:(List Int)) (v26:Int) (c27:Bs):Option ((Bs×(List Int)) ⊕ (Bs×Bool×yb)):=
 if l3.length+1≤1000000000 then (some (.inl (c27,(l3++[v26])))) else none
noncomputable def xn (l3:(List Int)) (l8:Bs) (v20:Bool):Option ((Bs×(List Int)) ⊕ (Bs×Bool×yb)):=
 if v20 then (some (.inr ([],false,(yb.mk l8)))) else ((l8[0]?).bind fun (x22:UInt8)=>(sub? l8 1 (l8.length:Int)).bind fun (l24:Bs)=>Yl l3 (x22.toNat:Int) l24)
noncomputable def z4q (c29:Bs):Option (Bs×Bool×yb):=
 some ([],false,(yb.mk c29))
noncomputable def ve (c2:Bs) (l3:(List Int)):Option ((Bs×(List Int)) ⊕ (Bs×Bool×yb)):=
 if decide (c2≠[]) then ((c2[0]?).bind fun (x6:UInt8)=>(sub? c2 1 (c2.length:Int)).bind fun (l8:Bs)=>if decide ((x6.toNat:Int)=34) then (some (.inr ((strN l3),true,(yb.mk l8)))) else (if decide ((x6.toNat:Int)=92) then (if decide (l8=[]) then (xn l3 l8 true) else ((l8[0]?).bind fun (x14:UInt8)=>if decide ((x14.toNat:Int)≠34) then (xn l3 l8 (decide ((x14.toNat:Int)≠92))) else (xn l3 l8 false))) else (Yl l3 (x6.toNat:Int) l8))) else (Option.map .inr (z4q c2))
noncomputable def z34 (s1:yb):Option (Bs×Bool×yb):=
 iter (fun (s:Bs×(List Int))=>ve s.1 s.2) (s1.s_,[])
noncomputable def vu (r2:(Bs×Bs×Bool)) (v30:Bool):Option (Int×Bool):=
 if v30 then (some (0,false)) else (if r2.2.1.length+[48,48,48].length≤1000000000 then ((sub? (r2.2.1++[48,48,48]) 0 3).bind fun (l33:Bs)=>if r2.1.length+l33.length≤1000000000 then ((jr (r2.1++l33)).bind fun r36=>some (r36.1,((decide (r36.2=0)) && (decide (r36.1≤1000))))) else none) else none)
noncomputable def Ya (s1:Bs):Option (Int×Bool):=
 (uc s1 [46]).bind fun r2=>if decide (r2.1≠[48]) then (if decide (r2.1≠[49]) then (vu r2 true) else (if r2.2.2 then ((xh (r2.2.1.length:Int) 1 3).bind fun r10=>if !r10 then (vu r2 true) else ((ue r2.2.1 [48,49,50,51,52,53,54,55,56,57]).bind fun r14=>vu r2 (!r14))) else (vu r2 false))) else (if r2.2.2 then ((xh (r2.2.1.length:Int) 1 3).bind fun r22=>if !r22 then (vu r2 true) else ((ue r2.2.1 [48,49,50,51,52,53,54,55,56,57]).bind fun r26=>vu r2 (!r26))) else (vu r2 false))
noncomputable def Ym (s2:zg) (s3:Bool) (r6:(Bs×yb)) (r19:(Bool)) (v30:Bs) (v31:Bool) (c32:Bs):Option (Bool×yb×zg×Bool):=
 if !v31 then (some (false,(yb.mk c32),s2,s3)) else (if ((decide (r6.1≠[113])) && (decide (r6.1≠[81]))) then (if s2.Params.length+1≤1000000000 then (some (true,(yb.mk c32),(zg.mk s2.Words (s2.Params++[(zt.mk r6.1 v30)]) s2.Quality),s3)) else none) else ((Ya v30).bind fun r36=>some (((r36.2 && (!s3)) && (!r19)),(yb.mk c32),(zg.mk s2.Words s2.Params r36.1),true)))
noncomputable def Yn (s2:zg) (s3:Bool) (r6:(Bs×yb)) (v15:Bool):Option (Bool×yb×zg×Bool):=
 if v15 then (some (false,r6.2,s2,s3)) else ((sub? r6.2.s_ 1 (r6.2.s_.length:Int)).bind fun (l17:Bs)=>(Zw l17 [34]).bind fun r19=>if r19 then ((sub? l17 1 (l17.length:Int)).bind fun (l22:Bs)=>(z34 (yb.mk l22)).bind fun r24=>Ym s2 s3 r6 r19 r24.1 r24.2.1 r24.2.2.s_) else ((js (yb.mk l17) [44,59,32]).bind fun r26=>(kt r26.1).bind fun r28=>Ym s2 s3 r6 r19 r26.1 r28 r26.2.s_))
noncomputable def xf (s1:yb) (s2:zg) (s3:Bool):Option (Bool×yb×zg×Bool):=
 (xg s1).bind fun r4=>(js r4 [61,44,59,32]).bind fun r6=>(kt r6.1).bind fun r8=>if !r8 then (Yn s2 s3 r6 true) else ((Zw r6.2.s_ [61]).bind fun r12=>Yn s2 s3 r6 (!r12))
noncomputable def Ww (l7:(List zt)) (c8:Bs) (c9:Bs) (c10:Int) (c11:Bool):Option (((List zt)×Bs×Bs×Int×Bool) ⊕ (zg×Bool×yb)):=
 (xg (yb.mk c8)).bind fun r13=>(Zw r13.s_ [59]).bind fun r15=>if !r15 then (some (.inr ((zg.mk c9 l7 c10),true,r13))) else ((sub? r13.s_ 1 (r13.s_.length:Int)).bind fun (l18:Bs)=>(xf (yb.mk l18) (zg.mk c9 l7 c10) c11).bind fun r20=>if !r20.1 then (some (.inr (r20.2.2.1,false,r20.2.1))) else (some (.inl (r20.2.2.1.Params,r20.2.1.s_,r20.2.2.1.Words,r20.2.2.1.Quality,r20.2.2.2))))
noncomputable def z1i (s1:yb):Option (zg×Bool×yb):=
 (js s1 [44,59,32]).bind fun r2=>(Wi r2.1).bind fun r4=>if !r4 then (some ((zg.mk r2.1 ([]:List zt) 1000),false,r2.2)) else (iter (fun (s:(List zt)×Bs×Bs×Int×Bool)=>Ww s.1 s.2.1 s.2.2.1 s.2.2.2.1 s.2.2.2.2) (([]:List zt),r2.2.s_,r2.1,1000,false))
noncomputable def z1j (x1:zg):Option (Bool):=
 some (decide (100 < (x1.Params.length:Int)))
noncomputable def kg (v29:(List zg)) (c30:Bs):Option ((Bs×(List zg)) ⊕ ((List zg)×Int)):=
 (xg (yb.mk c30)).bind fun r31=>some (.inl (r31.s_,v29))
noncomputable def Yo (l8:(List zg)) (r16:(zg×Bool×yb)) (v26:Bool):Option ((Bs×(List zg)) ⊕ ((List zg)×Int)):=
 if v26 then (some (.inr ([],9))) else (if l8.length+1≤1000000000 then (kg (l8++[r16.1]) r16.2.2.s_) else none)
noncomputable def Wy (v33:(List zg)) (v39:Bool):Option ((List zg)×Int):=
 if v39 then (some ([],2)) else (some (v33,0))
noncomputable def Wz (v33:(List zg)):Option ((List zg)×Int):=
 if decide (50 < (v33.length:Int)) then (Wy v33 true) else ((ke v33 (fun (a0:zg)=>z1j a0)).bind fun r36=>Wy v33 r36)
noncomputable def ju (c7:Bs) (l8:(List zg)):Option ((Bs×(List zg)) ⊕ ((List zg)×Int)):=
 if decide (c7≠[]) then ((c7[0]?).bind fun (x11:UInt8)=>if decide ((x11.toNat:Int)=44) then ((sub? c7 1 (c7.length:Int)).bind fun (l14:Bs)=>kg l8 l14) else ((z1i (yb.mk c7)).bind fun r16=>if !r16.2.1 then (Yo l8 r16 true) else (if decide (r16.2.2.s_≠[]) then ((r16.2.2.s_[0]?).bind fun (x22:UInt8)=>Yo l8 r16 (decide ((x22.toNat:Int)≠44))) else (Yo l8 r16 false)))) else (Option.map .inr (Wz l8))
noncomputable def z1k (v1:Bs):Option ((List zg)×Int):=
 (z35 v1).bind fun r2=>if !r2 then (some ([],3)) else ((xg (yb.mk v1)).bind fun r5=>iter (fun (s:Bs×(List zg))=>ju s.1 s.2) (r5.s_,[]))
noncomputable def Wg (it1:zg):Option (Bool):=
 some (decide (100 < (it1.Params.length:Int)))
noncomputable def Zp (v14:Bool):Option (Bool):=
 some v14
noncomputable def z09 (s1:Bs):Option (Bool):=
 (uc s1 [47]).bind fun r2=>(ud r2.1).bind fun r4=>if r4 then (if !r2.2.2 then (Zp true) else ((ud r2.2.1).bind fun r10=>Zp r10)) else (Zp false)
noncomputable def Qp (x11:zt) (v21:Bool):Option (Unit ⊕ (Int)):=
 if v21 then (some (.inr 5)) else ((xe x11.Value 32 126).bind fun r23=>if !r23 then (some (.inr 3)) else (some (.inl ())))
noncomputable def Zo (k8:Nat) (x11:zt):Option (Unit ⊕ (Int)):=
 (ud x11.Name).bind fun r14=>if !r14 then (Qp x11 true) else ((We x11.Name).bind fun r18=>Qp x11 r18)
noncomputable def z3i:Option (Int):=
 some 0
noncomputable def z3w (it1:zg):Option (Int):=
 (z09 it1.Words).bind fun r2=>if !r2 then some 9 else ((z1f it1.Quality 0 1000).bind fun r5=>if r5 then some 1 else (if it1.Params.length≤1000000000 then forL (fun (k:Nat) (x:zt) (s:Unit)=>Zo k x) (fun (s:Unit)=>z3i) 0 it1.Params () else none))
noncomputable def Qe (s1:Bs) (cutset2:Bs) (v9:Bool):Option (Bs):=
 if v9 then ((cutset2[0]?).bind fun (x11:UInt8)=>(ub s1 (x11.toNat:Int)).bind fun r13=>some r13) else none
noncomputable def Zt (s1:Bs) (cutset2:Bs):Option (Bs):=
 if ((decide (s1=[])) || (decide (cutset2=[]))) then some s1 else (if decide ((cutset2.length:Int)=1) then ((cutset2[0]?).bind fun (x6:UInt8)=>Qe s1 cutset2 (decide ((x6.toNat:Int) < 128))) else (Qe s1 cutset2 false))
noncomputable def Qo (s2:Bs) (x6:zt) (v27:Bs):Option (Bs ⊕ (Bs)):=
 if [59].length+x6.Name.length≤1000000000 then (if ([59]++x6.Name).length+[61].length≤1000000000 then (if (([59]++x6.Name)++[61]).length+v27.length≤1000000000 then (if s2.length+((([59]++x6.Name)++[61])++v27).length≤1000000000 then (some (.inl (s2++((([59]++x6.Name)++[61])++v27)))) else none) else none) else none) else none
noncomputable def Zm (k3:Nat) (x6:zt) (s2:Bs):Option (Bs ⊕ (Bs)):=
 (ud x6.Value).bind fun r20=>if !r20 then ((Zv x6.Value).bind fun r24=>if [34].length+r24.length≤1000000000 then (if ([34]++r24).length+[34].length≤1000000000 then (Qo s2 x6 (([34]++r24)++[34])) else none) else none) else (Qo s2 x6 x6.Value)
noncomputable def Zn (it1:zg) (s2:Bs):Option (Bs):=
 if decide (it1.Quality=1000) then some s2 else (if decide (it1.Quality=0) then (if s2.length+[59,113,61,48].length≤1000000000 then (some (s2++[59,113,61,48])) else none) else ((z07 (wr (1000+it1.Quality))).bind fun r10=>(sub? r10 1 (r10.length:Int)).bind fun (l12:Bs)=>if s2.length+[59,113,61,48,46].length≤1000000000 then ((Zt l12 [48]).bind fun r15=>if (s2++[59,113,61,48,46]).length+r15.length≤1000000000 then (some ((s2++[59,113,61,48,46])++r15)) else none) else none))
noncomputable def z3v (it1:zg):Option (Bs):=
 if it1.Params.length≤1000000000 then forL (fun (k:Nat) (x:zt) (s:Bs)=>Zm k x s) (fun (s:Bs)=>Zn it1 s) 0 it1.Params it1.Words else none
noncomputable def xb (k10:Nat) (x13:zg) (l9:(List Bs)):Option ((List Bs) ⊕ (Bs×Int)):=
 (z3w x13).bind fun r19=>if decide (r19≠0) then (some (.inr ([],r19))) else ((z3v x13).bind fun r22=>if l9.length+1≤1000000000 then (some (.inl (l9++[r22]))) else none)
noncomputable def Qx (l9:(List Bs)):Option (Bs×Int):=
 (kc l9 [44,32]).bind fun r14=>if decide (2000 < (r14.length:Int)) then (some ([],2)) else (some (r14,0))
noncomputable def Qw (l1:(List zg)) (v7:Bool):Option (Bs×Int):=
 if v7 then (some ([],2)) else (if l1.length≤1000000000 then forL (fun (k:Nat) (x:zg) (s:(List Bs))=>xb k x s) (fun (s:(List Bs))=>Qx s) 0 l1 [] else none)
noncomputable def z1e (l1:(List zg)):Option (Bs×Int):=
 if decide (50 < (l1.length:Int)) then (Qw l1 true) else ((ke l1 (fun (a0:zg)=>Wg a0)).bind fun r4=>Qw l1 r4)
noncomputable def z1l (x1:zg):Option (Bool):=
 some (decide (100 < (x1.Params.length:Int)))
noncomputable def z33 (n1:Int):Option (Bs):=
 if decide (n1=0) then (some [48]) else ((z07 (wr (1000+n1))).bind fun r3=>(sub? r3 1 (r3.length:Int)).bind fun (l5:Bs)=>(Zt l5 [48]).bind fun r7=>if [48,46].length+r7.length≤1000000000 then (some ([48,46]++r7)) else none)
noncomputable def z0b (l9:(List Bs)) (v35:Bs):Option ((List Bs) ⊕ (Bs×Int)):=
 if l9.length+1≤1000000000 then (some (.inl (l9++[v35]))) else none
noncomputable def z0a (v25:Bs) (x29:zt) (v54:Bs):Option (Bs ⊕ ((List Bs) ⊕ (Bs×Int))):=
 if [59].length+x29.Name.length≤1000000000 then (if ([59]++x29.Name).length+[61].length≤1000000000 then (if (([59]++x29.Name)++[61]).length+v54.length≤1000000000 then (if v25.length+((([59]++x29.Name)++[61])++v54).length≤1000000000 then (some (.inl (v25++((([59]++x29.Name)++[61])++v54)))) else none) else none) else none) else none
noncomputable def Yp (k26:Nat) (x29:zt) (v25:Bs):Option (Bs ⊕ ((List Bs) ⊕ (Bs×Int))):=
 (kt x29.Name).bind fun r39=>if (((!r39) || (decide (x29.Name=[113]))) || (decide (x29.Name=[81]))) then (some (.inr (.inr ([],5)))) else ((z1h x29.Value 32).bind fun r42=>if !r42 then (some (.inr (.inr ([],3)))) else ((kt x29.Value).bind fun r45=>if !r45 then ((Wb x29.Value [92] [92,92]).bind fun r48=>(Wb r48 [34] [92,34]).bind fun r50=>if [34].length+r50.length≤1000000000 then (if ([34]++r50).length+[34].length≤1000000000 then (z0a v25 x29 (([34]++r50)++[34])) else none) else none) else (z0a v25 x29 x29.Value)))
noncomputable def Yq (l9:(List Bs)) (x13:zg) (v25:Bs):Option ((List Bs) ⊕ (Bs×Int)):=
 if decide (x13.Quality < 1000) then ((z33 x13.Quality).bind fun r31=>if [59,113,61].length+r31.length≤1000000000 then (if v25.length+([59,113,61]++r31).length≤1000000000 then (z0b l9 (v25++([59,113,61]++r31))) else none) else none) else (z0b l9 v25)
noncomputable def xo (k10:Nat) (x13:zg) (l9:(List Bs)):Option ((List Bs) ⊕ (Bs×Int)):=
 (Wi x13.Words).bind fun r19=>if !r19 then (some (.inr ([],9))) else ((xh x13.Quality 0 1000).bind fun r22=>if !r22 then (some (.inr ([],1))) else (if x13.Params.length≤1000000000 then forL (fun (k:Nat) (x:zt) (s:Bs)=>Yp k x s) (fun (s:Bs)=>Yq l9 x13 s) 0 x13.Params x13.Words else none))
noncomputable def z0d (l9:(List Bs)):Option (Bs×Int):=
 (kc l9 [44,32]).bind fun r14=>if decide (2000 < (r14.length:Int)) then (some ([],2)) else (some (r14,0))
noncomputable def z0c (v1:(List zg)) (v7:Bool):Option (Bs×Int):=
 if v7 then (some ([],2)) else (if v1.length≤1000000000 then forL (fun (k:Nat) (x:zg) (s:(List Bs))=>xo k x s) (fun (s:(List Bs))=>z0d s) 0 v1 [] else none)
noncomputable def z1m (v1:(List zg)):Option (Bs×Int):=
 if decide (50 < (v1.length:Int)) then (z0c v1 true) else ((ke v1 (fun (a0:zg)=>z1l a0)).bind fun r4=>z0c v1 r4)
noncomputable def Qi (s2:(List zg)) (p2:zg→zg→Option (Bool)) (k4:Nat) (x7:zg):Option (Unit ⊕ (Bool)):=
 (s2[k4]?).bind fun (x10:zg)=>(p2 x7 x10).bind fun r12=>if !r12 then (some (.inr false)) else (some (.inl ()))
noncomputable def z28:Option (Bool):=
 some true
noncomputable def z3t (s1:(List zg)) (s2:(List zg)) (p2:zg→zg→Option (Bool)):Option (Bool):=
 if decide ((s1.length:Int)≠(s2.length:Int)) then some false else (if s1.length≤1000000000 then forL (fun (k:Nat) (x:zg) (s:Unit)=>Qi s2 p2 k x) (fun (s:Unit)=>z28) 0 s1 () else none)
noncomputable def z5t (s2:(List zt)) (k4:Nat) (x7:zt):Option (Unit ⊕ (Bool)):=
 (s2[k4]?).bind fun (x10:zt)=>if (!((x7.Name == x10.Name) && ((x7.Value == x10.Value) && true))) then (some (.inr false)) else (some (.inl ()))
noncomputable def z5u:Option (Bool):=
 some true
noncomputable def z3s (s1:(List zt)) (s2:(List zt)):Option (Bool):=
 if decide ((s1.length:Int)≠(s2.length:Int)) then some false else (if s1.length≤1000000000 then forL (fun (k:Nat) (x:zt) (s:Unit)=>z5t s2 k x) (fun (s:Unit)=>z5u) 0 s1 () else none)
noncomputable def Yt (v11:Bool):Option (Bool):=
 some v11
noncomputable def xk (x1:zg) (y2:zg):Option (Bool):=
 if decide (x1.Words=y2.Words) then (if decide (x1.Quality=y2.Quality) then ((z3s x1.Params y2.Params).bind fun r7=>Yt r7) else (Yt false)) else (Yt false)
noncomputable def z1t (a1:(List zg)) (b2:(List zg)):Option (Bool):=
 (z3t a1 b2 (fun (a0:zg) (a1:zg)=>xk a0 a1)).bind fun r3=>some r3
noncomputable def Zq (v17:Bool):Option (Int):=
 if v17 then some 3 else some 0
noncomputable def z3z (s1:Bs):Option (Int):=
 if decide (1000 < (s1.length:Int)) then (Zq true) else ((Zw s1 [47]).bind fun r4=>if !r4 then (Zq true) else ((xe s1 33 126).bind fun r8=>if !r8 then (Zq true) else ((z6g s1 [63,35]).bind fun r12=>Zq r12)))
noncomputable def z3r (l1:(List Int)) (c2:Int):Option (Int×(List Int)):=
 if l1.length+1≤1000000000 then (some (0,(l1++[c2]))) else none
noncomputable def z3y (c1:Int):Option (Bool):=
 (z1a c1).bind fun r2=>some ((r2 || ((decide (97≤c1)) && (decide (c1≤102)))) || ((decide (65≤c1)) && (decide (c1≤70))))
noncomputable def Qq (v17:Bool):Option (Bool):=
 some v17
noncomputable def z6n (s1:Bs) (v2:Int):Option (Bool):=
 if decide ((wr (v2+2)) < (s1.length:Int)) then ((at? s1 (wr (v2+1))).bind fun (x5:UInt8)=>(z3y (x5.toNat:Int)).bind fun r7=>if r7 then ((at? s1 (wr (v2+2))).bind fun (x11:UInt8)=>(z3y (x11.toNat:Int)).bind fun r13=>Qq r13) else (Qq false)) else (Qq false)
noncomputable def z6j (s1:Bs) (base2:Int) (bitSize3:Int):Option (Int×Int):=
 (z32 s1 base2 bitSize3).bind fun r4=>if decide (r4.2≠0) then ((z6i [80,97,114,115,101,85,105,110,116] s1 base2 bitSize3 r4.2).bind fun r7=>some (r4.1,r7)) else (some (r4.1,0))
noncomputable def z6l (s1:Bs) (v2:Int):Option (Int):=
 (sub? s1 (wr (v2+1)) (wr (v2+3))).bind fun (l3:Bs)=>(z6j l3 16 8).bind fun r5=>if decide (r5.2≠0) then some 0 else (some (IntKind.wrap .u8 r5.1))
noncomputable def Qt (v14:Bool):Option (Bool):=
 some v14
noncomputable def z6o (c1:Int):Option (Bool):=
 (z3x c1).bind fun r2=>if r2 then (Qt true) else ((z1a c1).bind fun r6=>if r6 then (Qt true) else ((z06 [45,46,95,126] c1).bind fun r10=>Qt (decide (0≤r10))))
noncomputable def z6m (c1:Int):Option (Bs):=
 (at? [48,49,50,51,52,53,54,55,56,57,65,66,67,68,69,70] (shr_ .u8 c1 4)).bind fun (x2:UInt8)=>(at? [48,49,50,51,52,53,54,55,56,57,65,66,67,68,69,70] (and_ .u8 c1 15)).bind fun (x4:UInt8)=>some (strN [37,(x2.toNat:Int),(x4.toNat:Int)])
noncomputable def z6h (l1:(List Int)) (s2:Bs):Option (Int×Int×(List Int)):=
 if l1.length+s2.length≤1000000000 then (some ((s2.length:Int),0,(l1++yl s2))) else none
noncomputable def z04 (i26:Int) (l27:(List Int)):Option ((Int×(List Int)) ⊕ (Bs×Bool)):=
 some (.inl (wr (i26+1),l27))
noncomputable def z03 (i2:Int) (l25:(List Int)):Option ((Int×(List Int)) ⊕ (Bs×Bool)):=
 z04 (wr (i2+2)) l25
noncomputable def z3g (l28:(List Int)):Option (Bs×Bool):=
 if byR l28=true then (some ((strN l28),true)) else none
noncomputable def z6b (s1:Bs) (i2:Int) (l3:(List Int)):Option ((Int×(List Int)) ⊕ (Bs×Bool)):=
 if decide (i2 < (s1.length:Int)) then ((at? s1 i2).bind fun (x6:UInt8)=>if decide ((x6.toNat:Int)≠37) then ((z3r l3 (x6.toNat:Int)).bind fun r9=>z04 i2 r9.2) else ((z6n s1 i2).bind fun r11=>if !r11 then (some (.inr ([],false))) else ((z6l s1 i2).bind fun r14=>(z6o r14).bind fun r16=>if r16 then ((z3r l3 r14).bind fun r19=>z03 i2 r19.2) else ((z6m r14).bind fun r21=>(z6h l3 r21).bind fun r23=>z03 i2 r23.2.2)))) else (Option.map .inr (z3g l3))
noncomputable def z08 (s1:Bs):Option (Bs×Bool):=
 iter (fun (s:Int×(List Int))=>z6b s1 s.1 s.2) (0,([]:List Int))
noncomputable def Qv (out29:(List Bs)):Option ((List Bs) ⊕ (Bs×Int)):=
 some (.inl out29)
noncomputable def z05 (r10:((List Bs))) (k13:Nat) (out26:(List Bs)):Option ((List Bs) ⊕ (Bs×Int)):=
 if decide ((k13:Int)=(wr ((r10.length:Int) - 1))) then (if out26.length+1≤1000000000 then (Qv (out26++([[]]))) else none) else (Qv out26)
noncomputable def z3l (r10:((List Bs))) (k13:Nat) (x16:Bs) (l12:(List Bs)):Option ((List Bs) ⊕ (Bs×Int)):=
 if decide (x16=[46]) then (z05 r10 k13 l12) else (if decide (x16=[46,46]) then (if (0:Int)≤(max (wr ((l12.length:Int) - 1)) 0)∧(max (wr ((l12.length:Int) - 1)) 0)≤(l12.length:Int) then (z05 r10 k13 (l12.take (max (wr ((l12.length:Int) - 1)) 0).toNat)) else none) else (if l12.length+1≤1000000000 then (Qv (l12++[x16])) else none))
noncomputable def z3m (l12:(List Bs)):Option (Bs×Int):=
 (kc l12 [47]).bind fun r17=>if [47].length+r17.length≤1000000000 then (some (([47]++r17),0)) else none
noncomputable def z1d (s1:Bs):Option (Bs×Int):=
 (z3z s1).bind fun r2=>if decide (r2≠0) then (some ([],r2)) else ((z08 s1).bind fun r5=>if !r5.2 then (some ([],9)) else ((sub? r5.1 1 (r5.1.length:Int)).bind fun (l8:Bs)=>(Zu l8 [47]).bind fun r10=>if r10.length≤1000000000 then forL (fun (k:Nat) (x:Bs) (s:(List Bs))=>z3l r10 k x s) (fun (s:(List Bs))=>z3m s) 0 r10 [] else none))
noncomputable def z1s  : Option (Bool):=
 (z1d [47,97,47,46,46,47,98]).bind fun r1=>some ((decide (r1.2=0)) && (decide (r1.1=[47,98])))
noncomputable def xp (v30:Bool):Option (Bool):=
 some v30
noncomputable def z36 (l1:(List Int)):Option (Bool):=
 (z1p (zz.mk l1 0)).bind fun r2=>(z1q r2.2).bind fun r4=>(z1c r2.1).bind fun r6=>(z1k r2.1).bind fun r8=>(z1e r4.1).bind fun r10=>(z1m r4.1).bind fun r12=>(z1t r6.1 r8.1).bind fun r14=>if r14 then (if decide (r6.2=r8.2) then (if decide (r10.1=r12.1) then (if decide (r10.2=r12.2) then ((z1s ).bind fun r24=>xp r24) else (xp false)) else (xp false)) else (xp false)) else (xp false)
end Go.Proofs.YtpjjkhcojjcdpaaGreatDoor
