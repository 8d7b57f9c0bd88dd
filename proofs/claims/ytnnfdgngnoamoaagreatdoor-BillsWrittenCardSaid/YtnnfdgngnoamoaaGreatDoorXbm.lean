/- Plain models of functions. Printed by a program. -/
import Derived.Test.YtnnfdgngnoamoaaGreatDoorMc
import Derived.Test.YtnnfdgngnoamoaaGreatDoorRng
import Derived.Test.YtnnfdgngnoamoaaGreatDoorMl
namespace Go.Proofs.YtnnfdgngnoamoaaGreatDoor
set_option linter.unusedVariables false
set_option maxRecDepth 20000
structure zw where
 State:Int
 Plan:Bs
 Since:Int
 First:Int
structure yh where
 Key:Bs
 Scopes:(List Bs)
structure yp where
 From:Int
 Cents:Int
structure ya where
 Key:Bs
 Product:Bs
 Base:Int
 Free:Int
 Tiers:(List yp)
 Limit:Int
 Trial:Int
 Asked:Bool
structure zx where
 Products:(List yh)
 Plans:(List ya)
structure zk where
 At:Int
 App:Bs
 Product:Bs
 Kind:Int
 Plan:Bs
structure qp where
 on_:zw
 last_:zw
structure zu where
 app_:Bs
 product_:Bs
structure yx where
 App:Bs
 Product:Bs
 What:Bs
 Calls:Int
 Cents:Int
structure zz where
 App:Bs
 Product:Bs
 Month:Int
 Calls:Int
structure zy where
 Key:Bs
 Owner:Bs
structure zm where
 Owner:Bs
 Month:Int
 Lines:(List yx)
 Cents:Int
structure zt where
 L:(List Int)
 at_:Int
noncomputable def y7d  : Option (zw):=
 some (zw.mk 0 [] 0 (-1))
noncomputable def z0s (state1:Int):Option (Bool):=
 some ((decide (state1=2)) || (decide (state1=3)))
noncomputable def z7a (i12:Int) (v20:Bool):Option (Int×Bool):=
 some (i12,v20)
noncomputable def y1i (x1:(List ya)) (target2:Bs) (p2:ya→Bs→Option (Int)) (i12:Int):Option (Int×Bool):=
 if decide (i12 < (x1.length:Int)) then ((at? x1 i12).bind fun (x15:ya)=>(p2 x15 target2).bind fun r17=>z7a i12 (decide (r17=0))) else (z7a i12 false)
noncomputable def y57 (x1:(List ya)) (target2:Bs) (p2:ya→Bs→Option (Int)) (i3:Int) (j4:Int):Option ((Int×Int) ⊕ (Int×Bool)):=
 if decide (i3 < j4) then ((at? x1 (IntKind.wrap .i64 (shr_ .u64 (IntKind.wrap .u64 (wr (i3+j4))) 1))).bind fun (x7:ya)=>(p2 x7 target2).bind fun r9=>if decide (r9 < 0) then (some (.inl (wr ((IntKind.wrap .i64 (shr_ .u64 (IntKind.wrap .u64 (wr (i3+j4))) 1))+1),j4))) else (some (.inl (i3,IntKind.wrap .i64 (shr_ .u64 (IntKind.wrap .u64 (wr (i3+j4))) 1))))) else (Option.map .inr (y1i x1 target2 p2 i3))
noncomputable def y2q (x1:(List ya)) (target2:Bs) (p2:ya→Bs→Option (Int)):Option (Int×Bool):=
 iter (fun (s:Int×Int)=>y57 x1 target2 p2 s.1 s.2) (0,(x1.length:Int))
noncomputable def z4k (p1:ya) (k2:Bs):Option (Int):=
 (uq p1.Key k2).bind fun r3=>some r3
noncomputable def Yh (c1:zx) (key2:Bs):Option (ya×Bool):=
 (y2q c1.Plans key2 (fun (a0:ya) (a1:Bs)=>z4k a0 a1)).bind fun r3=>if !r3.2 then (some ((ya.mk [] [] 0 0 [] 0 0 false),false)) else ((at? c1.Plans r3.1).bind fun (x6:ya)=>some (x6,true))
noncomputable def y2v (s1:zw) (x2:zk) (p3:ya):Option (zw×Bool):=
 (z0s s1.State).bind fun r4=>if r4 then (if ((decide (p3.Key=s1.Plan)) || p3.Asked) then (some (s1,false)) else (some ((zw.mk s1.State p3.Key x2.At s1.First),true))) else (if decide (s1.State=1) then (some (s1,false)) else (if p3.Asked then (some ((zw.mk 1 p3.Key x2.At (-1)),true)) else (some ((zw.mk 2 p3.Key x2.At x2.At),true))))
noncomputable def z38 (v12:Bool):Option (Int×Bool):=
 some (4,v12)
noncomputable def y2s (kind1:Int) (state2:Int):Option (Int×Bool):=
 if decide (kind1=2) then (some (2,decide (state2=1))) else (if decide (kind1=3) then (some (4,decide (state2=1))) else (if decide (kind1=4) then (some (3,decide (state2=2))) else (if decide (kind1=5) then (some (2,decide (state2=3))) else (if decide (state2=1) then (z38 true) else ((z0s state2).bind fun r9=>z38 r9)))))
noncomputable def z39 (s2:zw) (x3:zk) (r9:(Int×Bool)) (c13:Int):Option (zw×Bool):=
 some ((zw.mk r9.1 s2.Plan x3.At c13),true)
noncomputable def z74 (c1:zx) (s2:zw) (x3:zk):Option (zw×Bool):=
 if decide (x3.Kind=1) then ((Yh c1 x3.Plan).bind fun r5=>(y2v s2 x3 r5.1).bind fun r7=>some (r7.1,r7.2)) else ((y2s x3.Kind s2.State).bind fun r9=>if !r9.2 then (some (s2,false)) else (if ((decide (r9.1=2)) && (decide (s2.First < 0))) then (z39 s2 x3 r9 x3.At) else (z39 s2 x3 r9 s2.First)))
noncomputable def z2d (what1:Bs) (calls2:Int) (cents3:Int) (c4:(List yx)) (c5:zu):Option ((List yx)):=
 if decide (cents3≠0) then (if c4.length+1≤1000000000 then (some (c4++[(yx.mk c5.app_ c5.product_ what1 calls2 cents3)])) else none) else some c4
noncomputable def z1z (sum3:Int) (x7:yp) (to14:Int):Option (Int ⊕ (Int)):=
 some (.inl (wr (sum3+(wr ((max 0 (wr ((wr (to14 - x7.From))+1))) * x7.Cents)))))
noncomputable def z1y (p1:ya) (calls2:Int) (k4:Nat) (x7:yp) (sum3:Int):Option (Int ⊕ (Int)):=
 if decide (((k4:Int)+1) < (p1.Tiers.length:Int)) then ((p1.Tiers[(k4+1)]?).bind fun (x12:yp)=>z1z sum3 x7 (min (max 0 (wr (calls2 - p1.Free))) (wr (x12.From - 1)))) else (z1z sum3 x7 (max 0 (wr (calls2 - p1.Free))))
noncomputable def z34 (sum3:Int):Option (Int):=
 if ((0:Int)≤sum3∧sum3≤9223372036854775807)∧(0:Int) < 1000 then (some (sum3 / 1000)) else none
noncomputable def z4j (p1:ya) (calls2:Int):Option (Int):=
 if p1.Tiers.length≤1000000000 then forL (fun (k:Nat) (x:yp) (s:Int)=>z1y p1 calls2 k x s) (fun (s:Int)=>z34 s) 0 p1.Tiers 0 else none
noncomputable def z12 (l24:(List yx)):Option ((List yx)):=
 some l24
noncomputable def z13 (s1:qp) (v3:zu) (v4:Int) (v5:Int) (r7:(ya×Bool)) (v11:Int):Option ((List yx)):=
 (z2d [98,97,115,101] 0 v11 ([]:List yx) v3).bind fun r12=>(z4j r7.1 v5).bind fun r14=>(z2d [99,97,108,108,115] v5 r14 r12 v3).bind fun r16=>if decide (s1.last_.State=4) then (if ((0:Int)≤(wr (s1.last_.Since - (wr (v4 * 2592000000))))∧(wr (s1.last_.Since - (wr (v4 * 2592000000))))≤9223372036854775807)∧(0:Int) < 86400000 then (if ((0:Int)≤(wr (v11 * (wr (29 - ((wr (s1.last_.Since - (wr (v4 * 2592000000)))) / 86400000)))))∧(wr (v11 * (wr (29 - ((wr (s1.last_.Since - (wr (v4 * 2592000000)))) / 86400000)))))≤9223372036854775807)∧(0:Int) < 30 then (if -9223372036854775807≤((wr (v11 * (wr (29 - ((wr (s1.last_.Since - (wr (v4 * 2592000000)))) / 86400000))))) / 30)∧((wr (v11 * (wr (29 - ((wr (s1.last_.Since - (wr (v4 * 2592000000)))) / 86400000))))) / 30)≤9223372036854775807 then ((z2d [114,101,102,117,110,100] 0 (-((wr (v11 * (wr (29 - ((wr (s1.last_.Since - (wr (v4 * 2592000000)))) / 86400000))))) / 30)) r16 v3).bind fun r22=>z12 r22) else none) else none) else none) else (z12 r16)
noncomputable def z0u (s1:qp) (v2:zx) (v3:zu) (v4:Int) (v5:Int):Option ((List yx)):=
 if decide (s1.on_.State=0) then (some []) else ((Yh v2 s1.on_.Plan).bind fun r7=>if ((0:Int)≤s1.on_.First∧s1.on_.First≤9223372036854775807)∧(0:Int) < 2592000000 then (if decide (r7.1.Trial≤(wr (v4 - (s1.on_.First / 2592000000)))) then (z13 s1 v3 v4 v5 r7 r7.1.Base) else (z13 s1 v3 v4 v5 r7 0)) else none)
noncomputable def z40 (u1:(List (zz×Int))) (k2:zu) (month3:Int):Option (Int):=
 if k2.app_.length≤1000000000∧k2.product_.length≤1000000000∧(-9223372036854775808≤month3∧month3≤9223372036854775807)∧(-9223372036854775808≤(0:Int)∧(0:Int)≤9223372036854775807) then (some ((lkG u1 (zz.mk k2.app_ k2.product_ month3 0)).getD 0)) else none
noncomputable def z30 (k3:Nat) (x6:zz) (m2:(List (zz×Int))):Option ((List (zz×Int)) ⊕ ((List (zz×Int)))):=
 if x6.App.length≤1000000000∧x6.Product.length≤1000000000∧(-9223372036854775808≤x6.Month∧x6.Month≤9223372036854775807)∧(-9223372036854775808≤(0:Int)∧(0:Int)≤9223372036854775807) then (some (.inl (ptG m2 (zz.mk x6.App x6.Product x6.Month 0) x6.Calls))) else none
noncomputable def y1u (m2:(List (zz×Int))):Option ((List (zz×Int))):=
 some m2
noncomputable def Yg (l1:(List zz)):Option ((List (zz×Int))):=
 if l1.length≤1000000000 then forL (fun (k:Nat) (x:zz) (s:(List (zz×Int)))=>z30 k x s) (fun (s:(List (zz×Int)))=>y1u s) 0 l1 [] else none
noncomputable def z7b (i12:Int) (v20:Bool):Option (Int×Bool):=
 some (i12,v20)
noncomputable def y1j (x1:(List zy)) (target2:Bs) (p2:zy→Bs→Option (Int)) (i12:Int):Option (Int×Bool):=
 if decide (i12 < (x1.length:Int)) then ((at? x1 i12).bind fun (x15:zy)=>(p2 x15 target2).bind fun r17=>z7b i12 (decide (r17=0))) else (z7b i12 false)
noncomputable def y58 (x1:(List zy)) (target2:Bs) (p2:zy→Bs→Option (Int)) (i3:Int) (j4:Int):Option ((Int×Int) ⊕ (Int×Bool)):=
 if decide (i3 < j4) then ((at? x1 (IntKind.wrap .i64 (shr_ .u64 (IntKind.wrap .u64 (wr (i3+j4))) 1))).bind fun (x7:zy)=>(p2 x7 target2).bind fun r9=>if decide (r9 < 0) then (some (.inl (wr ((IntKind.wrap .i64 (shr_ .u64 (IntKind.wrap .u64 (wr (i3+j4))) 1))+1),j4))) else (some (.inl (i3,IntKind.wrap .i64 (shr_ .u64 (IntKind.wrap .u64 (wr (i3+j4))) 1))))) else (Option.map .inr (y1j x1 target2 p2 i3))
noncomputable def y2r (x1:(List zy)) (target2:Bs) (p2:zy→Bs→Option (Int)):Option (Int×Bool):=
 iter (fun (s:Int×Int)=>y58 x1 target2 p2 s.1 s.2) (0,(x1.length:Int))
noncomputable def z4l (a1:zy) (k2:Bs):Option (Int):=
 (uq a1.Key k2).bind fun r3=>some r3
noncomputable def z0t (l1:(List zy)) (key2:Bs):Option (Int×Bool):=
 (y2r l1 key2 (fun (a0:zy) (a1:Bs)=>z4l a0 a1)).bind fun r3=>some (r3.1,r3.2)
noncomputable def y24 (i2:Nat) (x5:UInt8):Option (Unit ⊕ (Bool)):=
 if !(((decide (97≤(x5.toNat:Int))) && (decide ((x5.toNat:Int)≤122))) || ((decide (0 < (i2:Int))) && ((((decide (48≤(x5.toNat:Int))) && (decide ((x5.toNat:Int)≤57))) || (decide ((x5.toNat:Int)=45))) || (decide ((x5.toNat:Int)=95))))) then (some (.inr false)) else (some (.inl ()))
noncomputable def y7m (s1:Bs):Option (Bool):=
 some ((decide (s1≠[])) && (decide ((s1.length:Int)≤40)))
noncomputable def Qy (s1:Bs):Option (Bool):=
 if s1.length≤1000000000 then forL (fun (k:Nat) (x:UInt8) (s:Unit)=>y24 k x) (fun (s:Unit)=>y7m s1) 0 s1 () else none
noncomputable def y0t (r2:((List Bs))) (k4:Nat) (x7:Bs):Option (Unit ⊕ (Bool)):=
 (Qy x7).bind fun r10=>if ((!r10) && (!((decide (x7=[42])) && (decide ((k4:Int)=(wr ((r2.length:Int) - 1))))))) then (some (.inr false)) else (some (.inl ()))
noncomputable def y41 (r2:((List Bs))):Option (Bool):=
 some (decide ((r2.length:Int)≤10))
noncomputable def z7u (s1:Bs):Option (Bool):=
 (z0r s1 [58]).bind fun r2=>if r2.length≤1000000000 then forL (fun (k:Nat) (x:Bs) (s:Unit)=>y0t r2 k x) (fun (s:Unit)=>y41 r2) 0 r2 () else none
noncomputable def y0u (k3:Nat) (x6:Bs):Option (Unit ⊕ (Int)):=
 (z7u x6).bind fun r9=>if !r9 then (some (.inr 3)) else (some (.inl ()))
noncomputable def y42:Option (Int):=
 some 0
noncomputable def z7v (l1:(List Bs)):Option (Int):=
 if decide (50 < (l1.length:Int)) then some 2 else (if l1.length≤1000000000 then forL (fun (k:Nat) (x:Bs) (s:Unit)=>y0u k x) (fun (s:Unit)=>y42) 0 l1 () else none)
noncomputable def z1x (x6:yh) (v17:Bool):Option (Unit ⊕ (Int)):=
 if v17 then (some (.inr 7)) else ((z7v x6.Scopes).bind fun r19=>if decide (r19≠0) then (some (.inr r19)) else (some (.inl ())))
noncomputable def y1w (l1:(List yh)) (k3:Nat) (x6:yh):Option (Unit ⊕ (Int)):=
 (Qy x6.Key).bind fun r9=>if !r9 then (some (.inr 5)) else (if decide (0 < (k3:Int)) then ((at? l1 ((k3:Int) - 1)).bind fun (x14:yh)=>z1x x6 (Op.bytesLess x6.Key x14.Key || x6.Key == x14.Key)) else (z1x x6 false))
noncomputable def y6n:Option (Int):=
 some 0
noncomputable def z71 (l1:(List yh)):Option (Int):=
 if decide (100 < (l1.length:Int)) then some 2 else (if l1.length≤1000000000 then forL (fun (k:Nat) (x:yh) (s:Unit)=>y1w l1 k x) (fun (s:Unit)=>y6n) 0 l1 () else none)
noncomputable def z69 (i12:Int) (v20:Bool):Option (Int×Bool):=
 some (i12,v20)
noncomputable def y1h (x1:(List yh)) (target2:Bs) (p2:yh→Bs→Option (Int)) (i12:Int):Option (Int×Bool):=
 if decide (i12 < (x1.length:Int)) then ((at? x1 i12).bind fun (x15:yh)=>(p2 x15 target2).bind fun r17=>z69 i12 (decide (r17=0))) else (z69 i12 false)
noncomputable def y56 (x1:(List yh)) (target2:Bs) (p2:yh→Bs→Option (Int)) (i3:Int) (j4:Int):Option ((Int×Int) ⊕ (Int×Bool)):=
 if decide (i3 < j4) then ((at? x1 (IntKind.wrap .i64 (shr_ .u64 (IntKind.wrap .u64 (wr (i3+j4))) 1))).bind fun (x7:yh)=>(p2 x7 target2).bind fun r9=>if decide (r9 < 0) then (some (.inl (wr ((IntKind.wrap .i64 (shr_ .u64 (IntKind.wrap .u64 (wr (i3+j4))) 1))+1),j4))) else (some (.inl (i3,IntKind.wrap .i64 (shr_ .u64 (IntKind.wrap .u64 (wr (i3+j4))) 1))))) else (Option.map .inr (y1h x1 target2 p2 i3))
noncomputable def y2p (x1:(List yh)) (target2:Bs) (p2:yh→Bs→Option (Int)):Option (Int×Bool):=
 iter (fun (s:Int×Int)=>y56 x1 target2 p2 s.1 s.2) (0,(x1.length:Int))
noncomputable def z4i (p1:yh) (k2:Bs):Option (Int):=
 (uq p1.Key k2).bind fun r3=>some r3
noncomputable def z2c (c1:zx) (key2:Bs):Option (Int×Bool):=
 (y2p c1.Products key2 (fun (a0:yh) (a1:Bs)=>z4i a0 a1)).bind fun r3=>some (r3.1,r3.2)
noncomputable def ur (n1:Int) (low2:Int) (high3:Int):Option (Bool):=
 some ((decide (n1 < low2)) || (decide (high3 < n1)))
noncomputable def z33 (v12:Bool):Option (Int):=
 if v12 then some 3 else some 0
noncomputable def z32 (v30:Bool):Option (Unit ⊕ (Int)):=
 if v30 then (some (.inr 7)) else (some (.inl ()))
noncomputable def z0o (l1:(List yp)) (k3:Nat) (x6:yp) (v23:Bool):Option (Unit ⊕ (Int)):=
 if v23 then (some (.inr 1)) else (if decide (0 < (k3:Int)) then ((at? l1 ((k3:Int) - 1)).bind fun (x27:yp)=>z32 (decide (x6.From≤x27.From))) else (z32 false))
noncomputable def z7j (l1:(List yp)) (k3:Nat) (x6:yp):Option (Unit ⊕ (Int)):=
 (ur x6.From 1 1000000000000).bind fun r16=>if r16 then (z0o l1 k3 x6 true) else ((ur x6.Cents 0 1000000).bind fun r20=>z0o l1 k3 x6 r20)
noncomputable def y1v (l1:(List yp)):Option (Int):=
 if decide (0 < (l1.length:Int)) then ((l1[0]?).bind fun (x9:yp)=>z33 (decide (x9.From≠1))) else (z33 false)
noncomputable def z7z (l1:(List yp)):Option (Int):=
 if decide (20 < (l1.length:Int)) then some 2 else (if l1.length≤1000000000 then forL (fun (k:Nat) (x:yp) (s:Unit)=>z7j l1 k x) (fun (s:Unit)=>y1v l1) 0 l1 () else none)
noncomputable def z35 (v37:Bool):Option (Int):=
 if v37 then some 1 else some 0
noncomputable def z36 (x3:ya) (v25:Bool):Option (Int):=
 if v25 then some 1 else ((z7z x3.Tiers).bind fun r27=>if decide (r27≠0) then some r27 else ((ur x3.Limit (-1) 1000000000000).bind fun r30=>if r30 then (z35 true) else ((ur x3.Trial 0 132).bind fun r34=>z35 r34)))
noncomputable def z10 (v1:zx) (x3:ya) (v13:Bool):Option (Int):=
 if v13 then some 7 else ((z2c v1 x3.Product).bind fun r15=>if !r15.2 then some 8 else ((ur x3.Base 0 1000000000000).bind fun r18=>if r18 then (z36 x3 true) else ((ur x3.Free 0 1000000000000).bind fun r22=>z36 x3 r22)))
noncomputable def z73 (v1:zx) (v2:Int):Option (Int):=
 (at? v1.Plans v2).bind fun (x3:ya)=>(Qy x3.Key).bind fun r5=>if !r5 then some 5 else (if decide (0 < v2) then ((at? v1.Plans (wr (v2 - 1))).bind fun (x10:ya)=>z10 v1 x3 (Op.bytesLess x3.Key x10.Key || x3.Key == x10.Key)) else (z10 v1 x3 false))
noncomputable def y1z (c1:zx) (k6:Nat) (x9:ya):Option (Unit ⊕ (Int)):=
 (z73 c1 (k6:Int)).bind fun r12=>if decide (r12≠0) then (some (.inr r12)) else (some (.inl ()))
noncomputable def y6q:Option (Int):=
 some 0
noncomputable def z2e (c1:zx):Option (Int):=
 (z71 c1.Products).bind fun r2=>if decide (r2≠0) then some r2 else (if decide (100 < (c1.Plans.length:Int)) then some 2 else (if c1.Plans.length≤1000000000 then forL (fun (k:Nat) (x:ya) (s:Unit)=>y1z c1 k x) (fun (s:Unit)=>y6q) 0 c1.Plans () else none))
noncomputable def z4d (v23:Bool):Option (Unit ⊕ (Int)):=
 if v23 then (some (.inr 7)) else (some (.inl ()))
noncomputable def z15 (l1:(List zy)) (k3:Nat) (x6:zy) (v16:Bool):Option (Unit ⊕ (Int)):=
 if v16 then (some (.inr 5)) else (if decide (0 < (k3:Int)) then ((at? l1 ((k3:Int) - 1)).bind fun (x20:zy)=>z4d (Op.bytesLess x6.Key x20.Key || x6.Key == x20.Key)) else (z4d false))
noncomputable def y10 (l1:(List zy)) (k3:Nat) (x6:zy):Option (Unit ⊕ (Int)):=
 (Qy x6.Key).bind fun r9=>if !r9 then (z15 l1 k3 x6 true) else ((Qy x6.Owner).bind fun r13=>z15 l1 k3 x6 (!r13))
noncomputable def y6r:Option (Int):=
 some 0
noncomputable def z4m (l1:(List zy)):Option (Int):=
 if decide (500 < (l1.length:Int)) then some 2 else (if l1.length≤1000000000 then forL (fun (k:Nat) (x:zy) (s:Unit)=>y10 l1 k x) (fun (s:Unit)=>y6r) 0 l1 () else none)
noncomputable def z8f (n1:Int):Option (Bool):=
 some ((decide (0≤n1)) && (decide (n1 < 345686400000)))
noncomputable def z83 (x1:Int):Option (Bool):=
 some (decide (x1≠x1))
noncomputable def z2m (x1:Int) (y2:Int):Option (Int):=
 (z83 x1).bind fun r3=>(z83 y2).bind fun r5=>if r3 then (if r5 then some 0 else (some (-1))) else (if r5 then some 1 else (if decide (x1 < y2) then (some (-1)) else (if decide (y2 < x1) then some 1 else some 0)))
noncomputable def z9x (k2:Nat) (x5:Int):Option (Unit ⊕ (Int)):=
 if decide (x5≠0) then (some (.inr x5)) else (some (.inl ()))
noncomputable def z9y:Option (Int):=
 some 0
noncomputable def We (vals1:(List Int)):Option (Int):=
 if vals1.length≤1000000000 then forL (fun (k:Nat) (x:Int) (s:Unit)=>z9x k x) (fun (s:Unit)=>z9y) 0 vals1 () else none
noncomputable def y2u (a1:zk) (b2:zk):Option (Int):=
 (z2m a1.At b2.At).bind fun r3=>(uq a1.App b2.App).bind fun r5=>(uq a1.Product b2.Product).bind fun r7=>(We [r3,r5,r7]).bind fun r9=>some r9
noncomputable def z4a (v32:Bool):Option (Int):=
 if v32 then some 7 else some 0
noncomputable def z11 (v3:(List zk)) (v4:Int) (x5:zk):Option (Int):=
 if decide (0 < v4) then ((at? v3 (wr (v4 - 1))).bind fun (x27:zk)=>(y2u x27 x5).bind fun r29=>z4a (decide (0≤r29))) else (z4a false)
noncomputable def z77 (v1:zx) (v2:(List zy)) (v3:(List zk)) (v4:Int):Option (Int):=
 (at? v3 v4).bind fun (x5:zk)=>(z8f x5.At).bind fun r7=>if !r7 then some 1 else ((z0t v2 x5.App).bind fun r10=>if !r10.2 then some 8 else ((z2c v1 x5.Product).bind fun r13=>if !r13.2 then some 8 else ((ur x5.Kind 1 6).bind fun r16=>if r16 then some 4 else (if ((decide (x5.Plan≠[])) && (decide (x5.Kind≠1))) then some 3 else (if decide (x5.Kind=1) then ((Yh v1 x5.Plan).bind fun r21=>if !r21.2 then some 8 else (if decide (r21.1.Product≠x5.Product) then some 16 else (z11 v3 v4 x5))) else (z11 v3 v4 x5))))))
noncomputable def y1y (c1:zx) (apps2:(List zy)) (l3:(List zk)) (k11:Nat) (x14:zk):Option (Unit ⊕ (Int)):=
 (z77 c1 apps2 l3 (k11:Int)).bind fun r17=>if decide (r17≠0) then (some (.inr r17)) else (some (.inl ()))
noncomputable def y6p:Option (Int):=
 some 0
noncomputable def z8d (c1:zx) (apps2:(List zy)) (l3:(List zk)):Option (Int):=
 (z2e c1).bind fun r4=>if decide (r4≠0) then some r4 else ((z4m apps2).bind fun r7=>if decide (r7≠0) then some r7 else (if decide (1000 < (l3.length:Int)) then some 2 else (if l3.length≤1000000000 then forL (fun (k:Nat) (x:zk) (s:Unit)=>y1y c1 apps2 l3 k x) (fun (s:Unit)=>y6p) 0 l3 () else none)))
noncomputable def y2t (a1:zz) (b2:zz):Option (Int):=
 (z2m a1.Month b2.Month).bind fun r3=>(uq a1.App b2.App).bind fun r5=>(uq a1.Product b2.Product).bind fun r7=>(We [r3,r5,r7]).bind fun r9=>some r9
noncomputable def z4c (v38:Bool):Option (Unit ⊕ (Int)):=
 if v38 then (some (.inr 7)) else (some (.inl ()))
noncomputable def z14 (v3:(List zz)) (k11:Nat) (x14:zz) (v29:Bool):Option (Unit ⊕ (Int)):=
 if v29 then (some (.inr 1)) else (if decide (0 < (k11:Int)) then ((at? v3 ((k11:Int) - 1)).bind fun (x33:zz)=>(y2t x33 x14).bind fun r35=>z4c (decide (0≤r35))) else (z4c false))
noncomputable def z7k (v1:zx) (v2:(List zy)) (v3:(List zz)) (k11:Nat) (x14:zz):Option (Unit ⊕ (Int)):=
 (z0t v2 x14.App).bind fun r17=>(z2c v1 x14.Product).bind fun r19=>if ((!r17.2) || (!r19.2)) then (some (.inr 8)) else ((ur x14.Month 0 132).bind fun r22=>if r22 then (z14 v3 k11 x14 true) else ((ur x14.Calls 0 1000000000000).bind fun r26=>z14 v3 k11 x14 r26))
noncomputable def y6o:Option (Int):=
 some 0
noncomputable def z8c (v1:zx) (v2:(List zy)) (v3:(List zz)):Option (Int):=
 (z2e v1).bind fun r4=>if decide (r4≠0) then some r4 else ((z4m v2).bind fun r7=>if decide (r7≠0) then some r7 else (if decide (3000 < (v3.length:Int)) then some 2 else (if v3.length≤1000000000 then forL (fun (k:Nat) (x:zz) (s:Unit)=>z7k v1 v2 v3 k x) (fun (s:Unit)=>y6o) 0 v3 () else none)))
noncomputable def z7y (c1:zx) (apps2:(List zy)) (l3:(List zk)) (uses4:(List zz)):Option (Int):=
 (z8d c1 apps2 l3).bind fun r5=>if decide (r5≠0) then some r5 else ((z8c c1 apps2 uses4).bind fun r8=>some r8)
noncomputable def z4b (k4:Nat) (x7:zm) (sum3:Int):Option (Int ⊕ (Int×Int)):=
 (ur x7.Cents (-1000000000000) 1000000000000).bind fun r10=>if r10 then (some (.inr (0,1))) else (some (.inl (wr (sum3+x7.Cents))))
noncomputable def y1x (sum3:Int):Option (Int×Int):=
 some (sum3,0)
noncomputable def z8a (l1:(List zm)):Option (Int×Int):=
 if decide (500 < (l1.length:Int)) then (some (0,2)) else (if l1.length≤1000000000 then forL (fun (k:Nat) (x:zm) (s:Int)=>z4b k x s) (fun (s:Int)=>y1x s) 0 l1 0 else none)
noncomputable def z0v  : Option (zw):=
 some (zw.mk 0 [] 0 (-1))
noncomputable def y5w (p1:ya→Option (Bool)) (k2:Nat) (x5:ya):Option (Unit ⊕ (Int)):=
 (p1 x5).bind fun r8=>if r8 then (some (.inr (k2:Int))) else (some (.inl ()))
noncomputable def y5x:Option (Int):=
 some (-1)
noncomputable def y2k (s1:(List ya)) (p1:ya→Option (Bool)):Option (Int):=
 if s1.length≤1000000000 then forL (fun (k:Nat) (x:ya) (s:Unit)=>y5w p1 k x) (fun (s:Unit)=>y5x) 0 s1 () else none
noncomputable def z4v (p1:ya) (c2:Bs):Option (Bool):=
 some (decide (p1.Key=c2))
noncomputable def xc (c1:zx) (key2:Bs):Option (Int):=
 (y2k c1.Plans (fun (a0:ya)=>z4v a0 key2)).bind fun r3=>some r3
noncomputable def ku (n1:Int) (low2:Int) (high3:Int):Option (Bool):=
 some ((decide (low2≤n1)) && (decide (n1≤high3)))
noncomputable def xv (v3:zk) (c38:Int) (c39:Bs) (c40:Int):Option (zw×Bool):=
 some ((zw.mk c38 c39 v3.At c40),true)
noncomputable def z2u (v2:zw) (v3:zk) (v25:Bool):Option (zw×Bool):=
 if v25 then (some (v2,false)) else (xv v3 v2.State v3.Plan v2.First)
noncomputable def z2t (v2:zw) (v3:zk) (v36:Bool):Option (zw×Bool):=
 if v36 then (xv v3 4 v2.Plan v2.First) else (some (v2,false))
noncomputable def z2v (v1:zx) (v2:zw) (v3:zk) (v9:Bool):Option (zw×Bool):=
 if v9 then (some (v2,false)) else (if ((decide (v3.Kind=1)) && ((decide (v2.State=0)) || (decide (v2.State=4)))) then ((xc v1 v3.Plan).bind fun r12=>(at? v1.Plans r12).bind fun (x14:ya)=>if !x14.Asked then (xv v3 2 v3.Plan v3.At) else (xv v3 1 v3.Plan (-1))) else (if ((decide (v3.Kind=1)) && ((decide (v2.State=2)) || (decide (v2.State=3)))) then (if decide (v3.Plan=v2.Plan) then (z2u v2 v3 true) else ((xc v1 v3.Plan).bind fun r20=>(at? v1.Plans r20).bind fun (x22:ya)=>z2u v2 v3 x22.Asked)) else (if ((decide (v3.Kind=2)) && (decide (v2.State=1))) then (xv v3 2 v2.Plan v3.At) else (if ((decide (v3.Kind=3)) && (decide (v2.State=1))) then (xv v3 4 v2.Plan v2.First) else (if ((decide (v3.Kind=4)) && (decide (v2.State=2))) then (xv v3 3 v2.Plan v2.First) else (if ((decide (v3.Kind=5)) && (decide (v2.State=3))) then (xv v3 2 v2.Plan v2.First) else (if decide (v3.Kind=6) then ((ku v2.State 1 3).bind fun r33=>z2t v2 v3 r33) else (z2t v2 v3 false))))))))
noncomputable def z0w (v1:zx) (v2:zw) (v3:zk):Option (zw×Bool):=
 if decide (v3.Kind=1) then ((xc v1 v3.Plan).bind fun r6=>z2v v1 v2 v3 (decide (r6 < 0))) else (z2v v1 v2 v3 false)
noncomputable def z2z (out23:(List zw)) (refused24:(List Int)):Option (((List zw)×(List Int)) ⊕ ((List zw)×(List Int))):=
 some (.inl (out23,refused24))
noncomputable def z2y (c1:zx) (app3:Bs) (product4:Bs) (k9:Nat) (x12:zk) (l7:(List zw)) (l8:(List Int)):Option (((List zw)×(List Int)) ⊕ ((List zw)×(List Int))):=
 if ((decide (x12.App≠app3)) || (decide (x12.Product≠product4))) then (z2z l7 l8) else ((at? l7 (wr ((l7.length:Int) - 1))).bind fun (x16:zw)=>(z0w c1 x16 x12).bind fun r18=>if r18.2 then (if l7.length+1≤1000000000 then (z2z (l7++[r18.1]) l8) else none) else (if l8.length+1≤1000000000 then (z2z l7 (l8++[(k9:Int)])) else none))
noncomputable def z5f (l7:(List zw)) (l8:(List Int)):Option ((List zw)×(List Int)):=
 some (l7,l8)
noncomputable def z4t (c1:zx) (l2:(List zk)) (app3:Bs) (product4:Bs):Option ((List zw)×(List Int)):=
 (z0v ).bind fun r5=>if l2.length≤1000000000 then forL (fun (k:Nat) (x:zk) (s:(List zw)×(List Int))=>z2y c1 app3 product4 k x s.1 s.2) (fun (s:(List zw)×(List Int))=>z5f s.1 s.2) 0 l2 (([r5]:(List zw)),[]) else none
noncomputable def z9m (v5:Int) (k10:Nat) (x11:zw):Option (Unit ⊕ (zw)):=
 if decide (x11.Since≤v5) then (some (.inr x11)) else (some (.inl ()))
noncomputable def z9n:Option (zw):=
 (z0v ).bind fun r15=>some r15
noncomputable def z8j (c1:zx) (l2:(List zk)) (app3:Bs) (product4:Bs) (v5:Int):Option (zw):=
 (z4t c1 l2 app3 product4).bind fun r6=>if r6.1.length≤1000000000 then back (fun (k:Nat) (x:zw) (s:Unit)=>z9m v5 k x) (fun (s:Unit)=>z9n) r6.1 r6.1.length () else none
noncomputable def y2w (s1:zw):Option (Bool):=
 some ((decide (s1.State=2)) || (decide (s1.State=3)))
noncomputable def z5b (v5:Int) (r8:(zw)) (x13:zw) (v19:Int):Option (Unit ⊕ (zw×zw×Bool)):=
 (y2w x13).bind fun r20=>if (((r20 && (decide (x13.Since < (wr ((wr (v5+1)) * 2592000000))))) && (decide ((wr (v5 * 2592000000)) < v19))) && (decide (x13.Since < v19))) then (some (.inr (x13,r8,true))) else (some (.inl ()))
noncomputable def z5a (v5:Int) (r6:((List zw)×(List Int))) (r8:(zw)) (k12:Nat) (x13:zw):Option (Unit ⊕ (zw×zw×Bool)):=
 if decide (((k12:Int)+1) < (r6.1.length:Int)) then ((r6.1[(k12+1)]?).bind fun (x17:zw)=>z5b v5 r8 x13 x17.Since) else (z5b v5 r8 x13 345686400000)
noncomputable def y3a (r8:(zw)):Option (zw×zw×Bool):=
 some ((zw.mk 0 [] 0 0),r8,false)
noncomputable def z4p (v1:zx) (v2:(List zk)) (v3:Bs) (v4:Bs) (v5:Int):Option (zw×zw×Bool):=
 (z4t v1 v2 v3 v4).bind fun r6=>(z8j v1 v2 v3 v4 (wr ((wr ((wr (v5+1)) * 2592000000)) - 1))).bind fun r8=>if r6.1.length≤1000000000 then back (fun (k:Nat) (x:zw) (s:Unit)=>z5a v5 r6 r8 k x) (fun (s:Unit)=>y3a r8) r6.1 r6.1.length () else none
noncomputable def z5c (app2:Bs) (product3:Bs) (month4:Int) (k5:Nat) (x8:zz):Option (Unit ⊕ (Int)):=
 if (((decide (x8.App=app2)) && (decide (x8.Product=product3))) && (decide (x8.Month=month4))) then (some (.inr x8.Calls)) else (some (.inl ()))
noncomputable def y3c:Option (Int):=
 some 0
noncomputable def z4r (l1:(List zz)) (app2:Bs) (product3:Bs) (month4:Int):Option (Int):=
 if l1.length≤1000000000 then forL (fun (k:Nat) (x:zz) (s:Unit)=>z5c app2 product3 month4 k x) (fun (s:Unit)=>y3c) 0 l1 () else none
noncomputable def z22 (k7:Nat) (x8:yp) (c3:Int) (c4:Int):Option ((Int×Int) ⊕ (Int)):=
 if decide (x8.From≤c3) then (some (.inl (wr (x8.From - 1),wr (c4+(wr ((wr ((wr (c3 - x8.From))+1)) * x8.Cents)))))) else (some (.inl (c3,c4)))
noncomputable def z5g (c3:Int) (c4:Int):Option (Int):=
 if ((0:Int)≤c4∧c4≤9223372036854775807)∧(0:Int) < 1000 then (some (c4 / 1000)) else none
noncomputable def z8n (p1:ya) (calls2:Int):Option (Int):=
 if p1.Tiers.length≤1000000000 then back (fun (k:Nat) (x:yp) (s:Int×Int)=>z22 k x s.1 s.2) (fun (s:Int×Int)=>z5g s.1 s.2) p1.Tiers p1.Tiers.length ((max 0 (wr (calls2 - p1.Free))),0) else none
noncomputable def z2p (v35:(List yx)):Option ((List yx)):=
 some v35
noncomputable def z2q (v4:Bs) (v5:Bs) (v6:Int) (r7:(zw×zw×Bool)) (x12:ya) (v18:Bool) (v28:(List yx)):Option ((List yx)):=
 if ((decide (r7.2.1.State=4)) && v18) then (if ((0:Int)≤(wr (r7.2.1.Since - (wr (v6 * 2592000000))))∧(wr (r7.2.1.Since - (wr (v6 * 2592000000))))≤9223372036854775807)∧(0:Int) < 86400000 then (if ((0:Int)≤(wr (x12.Base * (wr (29 - ((wr (r7.2.1.Since - (wr (v6 * 2592000000)))) / 86400000)))))∧(wr (x12.Base * (wr (29 - ((wr (r7.2.1.Since - (wr (v6 * 2592000000)))) / 86400000)))))≤9223372036854775807)∧(0:Int) < 30 then (if decide (((wr (x12.Base * (wr (29 - ((wr (r7.2.1.Since - (wr (v6 * 2592000000)))) / 86400000))))) / 30)≠0) then (if -9223372036854775807≤((wr (x12.Base * (wr (29 - ((wr (r7.2.1.Since - (wr (v6 * 2592000000)))) / 86400000))))) / 30)∧((wr (x12.Base * (wr (29 - ((wr (r7.2.1.Since - (wr (v6 * 2592000000)))) / 86400000))))) / 30)≤9223372036854775807 then (if v28.length+1≤1000000000 then (z2p (v28++([(yx.mk v4 v5 [114,101,102,117,110,100] 0 (-((wr (x12.Base * (wr (29 - ((wr (r7.2.1.Since - (wr (v6 * 2592000000)))) / 86400000))))) / 30)))]))) else none) else none) else (z2p v28)) else none) else none) else (z2p v28)
noncomputable def z2r (v3:(List zz)) (v4:Bs) (v5:Bs) (v6:Int) (r7:(zw×zw×Bool)) (x12:ya) (v18:Bool) (v21:(List yx)):Option ((List yx)):=
 (z4r v3 v4 v5 v6).bind fun r22=>(z8n x12 r22).bind fun r24=>if decide (r24≠0) then (if v21.length+1≤1000000000 then (z2q v4 v5 v6 r7 x12 v18 (v21++([(yx.mk v4 v5 [99,97,108,108,115] r22 r24)]))) else none) else (z2q v4 v5 v6 r7 x12 v18 v21)
noncomputable def z2s (v3:(List zz)) (v4:Bs) (v5:Bs) (v6:Int) (r7:(zw×zw×Bool)) (x12:ya) (v18:Bool):Option ((List yx)):=
 if v18 then (if ([]:List yx).length+1≤1000000000 then (z2r v3 v4 v5 v6 r7 x12 v18 (([]:List yx)++([(yx.mk v4 v5 [98,97,115,101] 0 x12.Base)]))) else none) else (z2r v3 v4 v5 v6 r7 x12 v18 ([]:List yx))
noncomputable def z2f (v1:zx) (v2:(List zk)) (v3:(List zz)) (v4:Bs) (v5:Bs) (v6:Int):Option ((List yx)):=
 (z4p v1 v2 v4 v5 v6).bind fun r7=>if !r7.2.2 then (some []) else ((xc v1 r7.1.Plan).bind fun r10=>(at? v1.Plans r10).bind fun (x12:ya)=>if decide (x12.Base≠0) then (if ((0:Int)≤r7.1.First∧r7.1.First≤9223372036854775807)∧(0:Int) < 2592000000 then (z2s v3 v4 v5 v6 r7 x12 (decide (x12.Trial≤(wr (v6 - (r7.1.First / 2592000000)))))) else none) else (z2s v3 v4 v5 v6 r7 x12 false))
noncomputable def z67 (s2:(List zm)) (p2:zm→zm→Option (Bool)) (k4:Nat) (x7:zm):Option (Unit ⊕ (Bool)):=
 (s2[k4]?).bind fun (x10:zm)=>(p2 x7 x10).bind fun r12=>if !r12 then (some (.inr false)) else (some (.inl ()))
noncomputable def y1c:Option (Bool):=
 some true
noncomputable def y2n (s1:(List zm)) (s2:(List zm)) (p2:zm→zm→Option (Bool)):Option (Bool):=
 if decide ((s1.length:Int)≠(s2.length:Int)) then some false else (if s1.length≤1000000000 then forL (fun (k:Nat) (x:zm) (s:Unit)=>z67 s2 p2 k x) (fun (s:Unit)=>y1c) 0 s1 () else none)
noncomputable def y52 (s2:(List yx)) (k4:Nat) (x7:yx):Option (Unit ⊕ (Bool)):=
 (s2[k4]?).bind fun (x10:yx)=>if (!((x7.App == x10.App) && ((x7.Product == x10.Product) && ((x7.What == x10.What) && ((x7.Calls == x10.Calls) && ((x7.Cents == x10.Cents) && true)))))) then (some (.inr false)) else (some (.inl ()))
noncomputable def y53:Option (Bool):=
 some true
noncomputable def y2m (s1:(List yx)) (s2:(List yx)):Option (Bool):=
 if decide ((s1.length:Int)≠(s2.length:Int)) then some false else (if s1.length≤1000000000 then forL (fun (k:Nat) (x:yx) (s:Unit)=>y52 s2 k x) (fun (s:Unit)=>y53) 0 s1 () else none)
noncomputable def z00 (v14:Bool):Option (Bool):=
 some v14
noncomputable def z2g (x1:zm) (y2:zm):Option (Bool):=
 if decide (x1.Owner=y2.Owner) then (if decide (x1.Month=y2.Month) then (if decide (x1.Cents=y2.Cents) then ((y2m x1.Lines y2.Lines).bind fun r9=>z00 r9) else (z00 false)) else (z00 false)) else (z00 false)
noncomputable def z8m (a1:(List zm)) (b2:(List zm)):Option (Bool):=
 (y2n a1 b2 (fun (a0:zm) (a1:zm)=>z2g a0 a1)).bind fun r3=>some r3
noncomputable def y3b (some2:Bs) (k3:Nat) (x6:UInt8):Option (Unit ⊕ (Bool)):=
 (y68 some2 (x6.toNat:Int)).bind fun r9=>if decide (r9 < 0) then (some (.inr false)) else (some (.inl ()))
noncomputable def y7z:Option (Bool):=
 some true
noncomputable def z4q (s1:Bs) (some2:Bs):Option (Bool):=
 if s1.length≤1000000000 then forL (fun (k:Nat) (x:UInt8) (s:Unit)=>y3b some2 k x) (fun (s:Unit)=>y7z) 0 s1 () else none
noncomputable def z23 (v16:Bool):Option (Bool):=
 some v16
noncomputable def Qz (s1:Bs):Option (Bool):=
 (ku (s1.length:Int) 1 40).bind fun r2=>if r2 then ((sub? s1 0 1).bind fun (l6:Bs)=>(z4q l6 [97,98,99,100,101,102,103,104,105,106,107,108,109,110,111,112,113,114,115,116,117,118,119,120,121,122]).bind fun r8=>if r8 then ((z4q s1 [97,98,99,100,101,102,103,104,105,106,107,108,109,110,111,112,113,114,115,116,117,118,119,120,121,122,48,49,50,51,52,53,54,55,56,57,45,95]).bind fun r12=>z23 r12) else (z23 false)) else (z23 false)
noncomputable def y5u (p1:yh→Option (Bool)) (k2:Nat) (x5:yh):Option (Unit ⊕ (Int)):=
 (p1 x5).bind fun r8=>if r8 then (some (.inr (k2:Int))) else (some (.inl ()))
noncomputable def y5v:Option (Int):=
 some (-1)
noncomputable def y2j (s1:(List yh)) (p1:yh→Option (Bool)):Option (Int):=
 if s1.length≤1000000000 then forL (fun (k:Nat) (x:yh) (s:Unit)=>y5u p1 k x) (fun (s:Unit)=>y5v) 0 s1 () else none
noncomputable def z4u (p1:yh) (c2:Bs):Option (Bool):=
 some (decide (p1.Key=c2))
noncomputable def z2h (c1:zx) (key2:Bs):Option (Int):=
 (y2j c1.Products (fun (a0:yh)=>z4u a0 key2)).bind fun r3=>some r3
noncomputable def z49 (v34:Bool):Option (Int):=
 if v34 then some 1 else some 0
noncomputable def z2o (v2:ya) (v25:Bool):Option (Int):=
 if v25 then some 3 else ((ku v2.Limit (-1) 1000000000000).bind fun r27=>if !r27 then (z49 true) else ((ku v2.Trial 0 132).bind fun r31=>z49 (!r31)))
noncomputable def z9j (v52:Bool):Option (Unit ⊕ (Int)):=
 if v52 then (some (.inr 7)) else (some (.inl ()))
noncomputable def z48 (v2:ya) (k16:Nat) (x19:yp) (v45:Bool):Option (Unit ⊕ (Int)):=
 if v45 then (some (.inr 1)) else (if decide (0 < (k16:Int)) then ((at? v2.Tiers ((k16:Int) - 1)).bind fun (x49:yp)=>z9j (decide (x19.From≤x49.From))) else (z9j false))
noncomputable def z9i (v2:ya) (k16:Nat) (x19:yp):Option (Unit ⊕ (Int)):=
 (ku x19.From 1 1000000000000).bind fun r38=>if !r38 then (z48 v2 k16 x19 true) else ((ku x19.Cents 0 1000000).bind fun r42=>z48 v2 k16 x19 (!r42))
noncomputable def z9k (v2:ya):Option (Int):=
 if decide (0 < (v2.Tiers.length:Int)) then ((v2.Tiers[0]?).bind fun (x22:yp)=>z2o v2 (decide (x22.From≠1))) else (z2o v2 false)
noncomputable def z0z (v2:ya) (v13:Bool):Option (Int):=
 if v13 then some 1 else (if decide (20 < (v2.Tiers.length:Int)) then some 2 else (if v2.Tiers.length≤1000000000 then forL (fun (k:Nat) (x:yp) (s:Unit)=>z9i v2 k x) (fun (s:Unit)=>z9k v2) 0 v2.Tiers () else none))
noncomputable def z8h (v1:zx) (v2:ya):Option (Int):=
 (z2h v1 v2.Product).bind fun r3=>if decide (r3 < 0) then some 8 else ((ku v2.Base 0 1000000000000).bind fun r6=>if !r6 then (z0z v2 true) else ((ku v2.Free 0 1000000000000).bind fun r10=>z0z v2 (!r10)))
noncomputable def y29 (r2:((List Bs))) (k4:Nat) (x7:Bs):Option (Unit ⊕ (Bool)):=
 (Qz x7).bind fun r10=>if ((!r10) && ((decide (x7≠[42])) || (decide ((k4:Int) < (wr ((r2.length:Int) - 1)))))) then (some (.inr false)) else (some (.inl ()))
noncomputable def y7y (r2:((List Bs))):Option (Bool):=
 some (decide ((r2.length:Int)≤10))
noncomputable def z8g (s1:Bs):Option (Bool):=
 (z0r s1 [58]).bind fun r2=>if r2.length≤1000000000 then forL (fun (k:Nat) (x:Bs) (s:Unit)=>y29 r2 k x) (fun (s:Unit)=>y7y r2) 0 r2 () else none
noncomputable def y3f (k3:Nat) (x6:Bs):Option (Unit ⊕ (Int)):=
 (z8g x6).bind fun r9=>if !r9 then (some (.inr 3)) else (some (.inl ()))
noncomputable def y71:Option (Int):=
 some 0
noncomputable def z8l (l1:(List Bs)):Option (Int):=
 if decide (50 < (l1.length:Int)) then some 2 else (if l1.length≤1000000000 then forL (fun (k:Nat) (x:Bs) (s:Unit)=>y3f k x) (fun (s:Unit)=>y71) 0 l1 () else none)
noncomputable def y3g (v1:zx) (k10:Nat) (x13:ya) (v9:Bs):Option (Bs ⊕ (Int)):=
 (Qz x13.Key).bind fun r16=>if !r16 then (some (.inr 5)) else (if (Op.bytesLess x13.Key v9 || x13.Key == v9) then (some (.inr 7)) else ((z8h v1 x13).bind fun r20=>if decide (r20≠0) then (some (.inr r20)) else (some (.inl x13.Key))))
noncomputable def y3i (v9:Bs):Option (Int):=
 some 0
noncomputable def y3h (k4:Nat) (x7:yh) (v3:Bs):Option (Bs ⊕ (Int)):=
 (Qz x7.Key).bind fun r25=>if !r25 then (some (.inr 5)) else (if (Op.bytesLess x7.Key v3 || x7.Key == v3) then (some (.inr 7)) else ((z8l x7.Scopes).bind fun r29=>if decide (r29≠0) then (some (.inr r29)) else (some (.inl x7.Key))))
noncomputable def z5j (v1:zx) (v3:Bs):Option (Int):=
 if decide (100 < (v1.Plans.length:Int)) then some 2 else (if v1.Plans.length≤1000000000 then forL (fun (k:Nat) (x:ya) (s:Bs)=>y3g v1 k x s) (fun (s:Bs)=>y3i s) 0 v1.Plans [] else none)
noncomputable def z4w (v1:zx):Option (Int):=
 if decide (100 < (v1.Products.length:Int)) then some 2 else (if v1.Products.length≤1000000000 then forL (fun (k:Nat) (x:yh) (s:Bs)=>y3h k x s) (fun (s:Bs)=>z5j v1 s) 0 v1.Products [] else none)
noncomputable def z5k (last3:Bs) (x7:zy) (v17:Bool):Option (Bs ⊕ (Int)):=
 if v17 then (some (.inr 5)) else (if (Op.bytesLess x7.Key last3 || x7.Key == last3) then (some (.inr 7)) else (some (.inl x7.Key)))
noncomputable def y3j (k4:Nat) (x7:zy) (last3:Bs):Option (Bs ⊕ (Int)):=
 (Qz x7.Key).bind fun r10=>if !r10 then (z5k last3 x7 true) else ((Qz x7.Owner).bind fun r14=>z5k last3 x7 (!r14))
noncomputable def y3k (last3:Bs):Option (Int):=
 some 0
noncomputable def z8p (l1:(List zy)):Option (Int):=
 if decide (500 < (l1.length:Int)) then some 2 else (if l1.length≤1000000000 then forL (fun (k:Nat) (x:zy) (s:Bs)=>y3j k x s) (fun (s:Bs)=>y3k s) 0 l1 [] else none)
noncomputable def z4s (c1:zx) (apps2:(List zy)):Option (Int):=
 (z4w c1).bind fun r3=>if decide (r3≠0) then some r3 else ((z8p apps2).bind fun r6=>some r6)
noncomputable def y50 (p1:zy→Option (Bool)) (k2:Nat) (x5:zy):Option (Unit ⊕ (Int)):=
 (p1 x5).bind fun r8=>if r8 then (some (.inr (k2:Int))) else (some (.inl ()))
noncomputable def y51:Option (Int):=
 some (-1)
noncomputable def y2l (s1:(List zy)) (p1:zy→Option (Bool)):Option (Int):=
 if s1.length≤1000000000 then forL (fun (k:Nat) (x:zy) (s:Unit)=>y50 p1 k x) (fun (s:Unit)=>y51) 0 s1 () else none
noncomputable def z4y (a1:zy) (c2:Bs):Option (Bool):=
 some (decide (a1.Key=c2))
noncomputable def z4z (l1:(List zy)) (key2:Bs):Option (Int):=
 (y2l l1 (fun (a0:zy)=>z4y a0 key2)).bind fun r3=>some r3
noncomputable def z4o (n1:Int):Option (Int):=
 if decide (n1 < 0) then (some (-1)) else (if decide (0 < n1) then some 1 else some 0)
noncomputable def z82 (x1:Bs):Option (Bool):=
 some (decide (x1≠x1))
noncomputable def z84 (x1:Bs) (y2:Bs):Option (Int):=
 (z82 x1).bind fun r3=>(z82 y2).bind fun r5=>if r3 then (if r5 then some 0 else (some (-1))) else (if r5 then some 1 else (if Op.bytesLess x1 y2 then (some (-1)) else (if (!(Op.bytesLess x1 y2 || x1 == y2)) then some 1 else some 0)))
noncomputable def y1d (s2:(List Bs)) (k3:Nat) (x6:Bs):Option (Unit ⊕ (Int)):=
 if decide ((s2.length:Int)≤(k3:Int)) then (some (.inr 1)) else ((s2[k3]?).bind fun (x11:Bs)=>(z84 x6 x11).bind fun r13=>if decide (r13≠0) then (some (.inr r13)) else (some (.inl ())))
noncomputable def y1e (s1:(List Bs)) (s2:(List Bs)):Option (Int):=
 if decide ((s1.length:Int) < (s2.length:Int)) then (some (-1)) else some 0
noncomputable def z2b (s1:(List Bs)) (s2:(List Bs)):Option (Int):=
 if s1.length≤1000000000 then forL (fun (k:Nat) (x:Bs) (s:Unit)=>y1d s2 k x) (fun (s:Unit)=>y1e s1 s2) 0 s1 () else none
noncomputable def y2x (a1:zz) (b2:zz):Option (Int):=
 if decide (a1.Month≠b2.Month) then ((z4o (wr (a1.Month - b2.Month))).bind fun r4=>some r4) else ((z2b [a1.App,a1.Product] [b2.App,b2.Product]).bind fun r6=>some r6)
noncomputable def z5d (v39:Bool):Option (Unit ⊕ (Int)):=
 if v39 then (some (.inr 7)) else (some (.inl ()))
noncomputable def z2w (l3:(List zz)) (k8:Nat) (x11:zz) (v30:Bool):Option (Unit ⊕ (Int)):=
 if v30 then (some (.inr 1)) else (if decide (0 < (k8:Int)) then ((at? l3 ((k8:Int) - 1)).bind fun (x34:zz)=>(y2x x34 x11).bind fun r36=>z5d (decide (0≤r36))) else (z5d false))
noncomputable def z5e (l3:(List zz)) (k8:Nat) (x11:zz) (v21:Bool):Option (Unit ⊕ (Int)):=
 if v21 then (some (.inr 8)) else ((ku x11.Month 0 132).bind fun r23=>if !r23 then (z2w l3 k8 x11 true) else ((ku x11.Calls 0 1000000000000).bind fun r27=>z2w l3 k8 x11 (!r27)))
noncomputable def z9l (c1:zx) (apps2:(List zy)) (l3:(List zz)) (k8:Nat) (x11:zz):Option (Unit ⊕ (Int)):=
 (z4z apps2 x11.App).bind fun r14=>if decide (r14 < 0) then (z5e l3 k8 x11 true) else ((z2h c1 x11.Product).bind fun r18=>z5e l3 k8 x11 (decide (r18 < 0)))
noncomputable def y70:Option (Int):=
 some 0
noncomputable def z8i (c1:zx) (apps2:(List zy)) (l3:(List zz)):Option (Int):=
 (z4s c1 apps2).bind fun r4=>if decide (r4≠0) then some r4 else (if decide (3000 < (l3.length:Int)) then some 2 else (if l3.length≤1000000000 then forL (fun (k:Nat) (x:zz) (s:Unit)=>z9l c1 apps2 l3 k x) (fun (s:Unit)=>y70) 0 l3 () else none))
noncomputable def z7r (x6:Int) (n7:Int):Option (Int):=
 (at? [0,1,2,2,3,3,3,3,4,4,4,4,4,4,4,4,5,5,5,5,5,5,5,5,5,5,5,5,5,5,5,5,6,6,6,6,6,6,6,6,6,6,6,6,6,6,6,6,6,6,6,6,6,6,6,6,6,6,6,6,6,6,6,6,7,7,7,7,7,7,7,7,7,7,7,7,7,7,7,7,7,7,7,7,7,7,7,7,7,7,7,7,7,7,7,7,7,7,7,7,7,7,7,7,7,7,7,7,7,7,7,7,7,7,7,7,7,7,7,7,7,7,7,7,7,7,7,7,8,8,8,8,8,8,8,8,8,8,8,8,8,8,8,8,8,8,8,8,8,8,8,8,8,8,8,8,8,8,8,8,8,8,8,8,8,8,8,8,8,8,8,8,8,8,8,8,8,8,8,8,8,8,8,8,8,8,8,8,8,8,8,8,8,8,8,8,8,8,8,8,8,8,8,8,8,8,8,8,8,8,8,8,8,8,8,8,8,8,8,8,8,8,8,8,8,8,8,8,8,8,8,8,8,8,8,8,8,8,8,8,8,8,8,8,8,8,8,8,8,8,8,8,8,8,8,8] (IntKind.wrap .u8 x6)).bind fun (x8:UInt8)=>some (wr (n7+(IntKind.wrap .i64 (x8.toNat:Int))))
noncomputable def z7s (x3:Int) (n4:Int):Option (Int):=
 if decide (256≤x3) then (z7r (shr_ .u32 x3 8) (wr (n4+8))) else (z7r x3 n4)
noncomputable def y7f (x1:Int):Option (Int):=
 if decide (65536≤x1) then (z7s (shr_ .u32 x1 16) 16) else (z7s x1 0)
noncomputable def z7o (x9:Int) (n10:Int):Option (Int):=
 (at? [0,1,2,2,3,3,3,3,4,4,4,4,4,4,4,4,5,5,5,5,5,5,5,5,5,5,5,5,5,5,5,5,6,6,6,6,6,6,6,6,6,6,6,6,6,6,6,6,6,6,6,6,6,6,6,6,6,6,6,6,6,6,6,6,7,7,7,7,7,7,7,7,7,7,7,7,7,7,7,7,7,7,7,7,7,7,7,7,7,7,7,7,7,7,7,7,7,7,7,7,7,7,7,7,7,7,7,7,7,7,7,7,7,7,7,7,7,7,7,7,7,7,7,7,7,7,7,7,8,8,8,8,8,8,8,8,8,8,8,8,8,8,8,8,8,8,8,8,8,8,8,8,8,8,8,8,8,8,8,8,8,8,8,8,8,8,8,8,8,8,8,8,8,8,8,8,8,8,8,8,8,8,8,8,8,8,8,8,8,8,8,8,8,8,8,8,8,8,8,8,8,8,8,8,8,8,8,8,8,8,8,8,8,8,8,8,8,8,8,8,8,8,8,8,8,8,8,8,8,8,8,8,8,8,8,8,8,8,8,8,8,8,8,8,8,8,8,8,8,8,8,8,8,8,8,8] (IntKind.wrap .u8 x9)).bind fun (x11:UInt8)=>some (wr (n10+(IntKind.wrap .i64 (x11.toNat:Int))))
noncomputable def z7p (x6:Int) (n7:Int):Option (Int):=
 if decide (256≤x6) then (z7o (shr_ .u64 x6 8) (wr (n7+8))) else (z7o x6 n7)
noncomputable def z7q (x3:Int) (n4:Int):Option (Int):=
 if decide (65536≤x3) then (z7p (shr_ .u64 x3 16) (wr (n4+16))) else (z7p x3 n4)
noncomputable def y7e (x1:Int):Option (Int):=
 if decide (4294967296≤x1) then (z7q (shr_ .u64 x1 32) 32) else (z7q x1 0)
noncomputable def z4n (x1:Int):Option (Int):=
 if false then ((y7f (IntKind.wrap .u32 x1)).bind fun r3=>some r3) else ((y7e x1).bind fun r5=>some r5)
noncomputable def y09 (i4:Int) (data28:(List zu)):Option ((Int×(List zu)) ⊕ ((List zu))):=
 some (.inl (wr (i4+1),data28))
noncomputable def z64 (i4:Int) (j8:Int) (l9:(List zu)) (v20:Bool):Option ((Int×(List zu)) ⊕ ((Int×(List zu)) ⊕ ((List zu)))):=
 if v20 then ((at? l9 (wr (j8 - 1))).bind fun (x22:zu)=>(at? l9 j8).bind fun (x24:zu)=>(at? (l9.set j8.toNat x22) (wr (j8 - 1))).bind fun (x26:zu)=>some (.inl (wr (j8 - 1),((l9.set j8.toNat x22).set ((wr (j8 - 1)).toNat) x24)))) else (Option.map .inr (y09 i4 l9))
noncomputable def y5o (a2:Int) (p3:zu→zu→Option (Int)) (i4:Int) (j8:Int) (l9:(List zu)):Option ((Int×(List zu)) ⊕ ((Int×(List zu)) ⊕ ((List zu)))):=
 if decide (a2 < j8) then ((at? l9 j8).bind fun (x13:zu)=>(at? l9 (wr (j8 - 1))).bind fun (x15:zu)=>(p3 x13 x15).bind fun r17=>z64 i4 j8 l9 (decide (r17 < 0))) else (z64 i4 j8 l9 false)
noncomputable def y5p (a2:Int) (b3:Int) (p3:zu→zu→Option (Int)) (i4:Int) (l5:(List zu)):Option ((Int×(List zu)) ⊕ ((List zu))):=
 if decide (i4 < b3) then (iter (fun (s:Int×(List zu))=>y5o a2 p3 i4 s.1 s.2) (i4,l5)) else (some (.inr l5))
noncomputable def y69 (data1:(List zu)) (a2:Int) (b3:Int) (p3:zu→zu→Option (Int)):Option ((List zu)):=
 iter (fun (s:Int×(List zu))=>y5p a2 b3 p3 s.1 s.2) (wr (a2+1),data1)
noncomputable def y5m (v1:(List zu)) (p4:zu→zu→Option (Int)) (v5:Int) (v6:Int) (v7:Int) (v8:Bool) (v9:Bool):Option ((Int×Int×Int×Bool×Bool) ⊕ ((List zu))):=
 if decide ((wr (v6 - v5))≤12) then ((y69 v1 v5 v6 p4).bind fun r12=>if r12.length=v1.length then (some (.inr r12)) else none) else (if decide (v7=0) then none else none)
noncomputable def y2f (v1:(List zu)) (v2:Int) (v3:Int) (v4:Int) (p4:zu→zu→Option (Int)):Option ((List zu)):=
 iter (fun (s:Int×Int×Int×Bool×Bool)=>y5m v1 p4 s.1 s.2.1 s.2.2.1 s.2.2.2.1 s.2.2.2.2) (v2,v3,v4,true,true)
noncomputable def y2i (x1:(List zu)) (p1:zu→zu→Option (Int)):Option ((List zu)):=
 (z4n (IntKind.wrap .u64 (x1.length:Int))).bind fun r2=>(y2f x1 0 (x1.length:Int) r2 p1).bind fun r4=>if r4.length=x1.length then some r4 else none
noncomputable def y1b (i4:Int) (data28:(List zm)):Option ((Int×(List zm)) ⊕ ((List zm))):=
 some (.inl (wr (i4+1),data28))
noncomputable def z66 (i4:Int) (j8:Int) (l9:(List zm)) (v20:Bool):Option ((Int×(List zm)) ⊕ ((Int×(List zm)) ⊕ ((List zm)))):=
 if v20 then ((at? l9 (wr (j8 - 1))).bind fun (x22:zm)=>(at? l9 j8).bind fun (x24:zm)=>(at? (l9.set j8.toNat x22) (wr (j8 - 1))).bind fun (x26:zm)=>some (.inl (wr (j8 - 1),((l9.set j8.toNat x22).set ((wr (j8 - 1)).toNat) x24)))) else (Option.map .inr (y1b i4 l9))
noncomputable def y5s (a2:Int) (p3:zm→zm→Option (Int)) (i4:Int) (j8:Int) (l9:(List zm)):Option ((Int×(List zm)) ⊕ ((Int×(List zm)) ⊕ ((List zm)))):=
 if decide (a2 < j8) then ((at? l9 j8).bind fun (x13:zm)=>(at? l9 (wr (j8 - 1))).bind fun (x15:zm)=>(p3 x13 x15).bind fun r17=>z66 i4 j8 l9 (decide (r17 < 0))) else (z66 i4 j8 l9 false)
noncomputable def y5t (a2:Int) (b3:Int) (p3:zm→zm→Option (Int)) (i4:Int) (l5:(List zm)):Option ((Int×(List zm)) ⊕ ((List zm))):=
 if decide (i4 < b3) then (iter (fun (s:Int×(List zm))=>y5s a2 p3 i4 s.1 s.2) (i4,l5)) else (some (.inr l5))
noncomputable def y7a (data1:(List zm)) (a2:Int) (b3:Int) (p3:zm→zm→Option (Int)):Option ((List zm)):=
 iter (fun (s:Int×(List zm))=>y5t a2 b3 p3 s.1 s.2) (wr (a2+1),data1)
noncomputable def y5n (v1:(List zm)) (p4:zm→zm→Option (Int)) (v5:Int) (v6:Int) (v7:Int) (v8:Bool) (v9:Bool):Option ((Int×Int×Int×Bool×Bool) ⊕ ((List zm))):=
 if decide ((wr (v6 - v5))≤12) then ((y7a v1 v5 v6 p4).bind fun r12=>if r12.length=v1.length then (some (.inr r12)) else none) else (if decide (v7=0) then none else none)
noncomputable def y2g (v1:(List zm)) (v2:Int) (v3:Int) (v4:Int) (p4:zm→zm→Option (Int)):Option ((List zm)):=
 iter (fun (s:Int×Int×Int×Bool×Bool)=>y5n v1 p4 s.1 s.2.1 s.2.2.1 s.2.2.2.1 s.2.2.2.2) (v2,v3,v4,true,true)
noncomputable def z7x (x1:(List zm)) (p1:zm→zm→Option (Int)):Option ((List zm)):=
 (z4n (IntKind.wrap .u64 (x1.length:Int))).bind fun r2=>(y2g x1 0 (x1.length:Int) r2 p1).bind fun r4=>if r4.length=x1.length then some r4 else none
noncomputable def Qx (a1:zu) (b2:zu):Option (Int):=
 (uq a1.app_ b2.app_).bind fun r3=>(uq a1.product_ b2.product_).bind fun r5=>(We [r3,r5]).bind fun r7=>some r7
noncomputable def z2i (a1:zm) (b2:zm):Option (Int):=
 (uq a1.Owner b2.Owner).bind fun r3=>some r3
noncomputable def z5w (x6:Int):Option (Int):=
 some x6
noncomputable def z2k (x1:Int) (n2:Int):Option (Int):=
 if decide (n2 < 1) then some 0 else (if n2≠0 then (if decide ((Int.tmod x1 n2) < 0) then (z5w (wr ((Int.tmod x1 n2)+n2))) else (z5w (Int.tmod x1 n2))) else none)
noncomputable def xe (s1:zt) (n2:Int):Option (Int×zt):=
 if decide ((s1.L.length:Int)=0) then ((z2k (wr ((wr (s1.at_+1)) * 7919)) n2).bind fun r4=>some (r4,(zt.mk s1.L (wr (s1.at_+1))))) else (if (s1.L.length:Int)≠0 then (if ((0:Int)≤(wr ((wr (s1.at_+1)) - 1))∧(wr ((wr (s1.at_+1)) - 1))≤9223372036854775807)∧(0:Int) < (s1.L.length:Int) then ((at? s1.L (Int.tmod (wr ((wr (s1.at_+1)) - 1)) (s1.L.length:Int))).bind fun (x8:Int)=>(z2k x8 1073741824).bind fun r10=>(z2k (wr (r10+(wr (((wr ((wr (s1.at_+1)) - 1)) / (s1.L.length:Int)) * (wr (7919+(Int.tmod (wr ((wr (s1.at_+1)) - 1)) (s1.L.length:Int)))))))) n2).bind fun r12=>some (r12,(zt.mk s1.L (wr (s1.at_+1))))) else none) else none)
noncomputable def ki (s1:zt) (n2:Int):Option (Bool×zt):=
 (xe s1 n2).bind fun r3=>some (decide (r3.1=0),r3.2)
noncomputable def jx (s1:zt) (l2:(List Bs)):Option (Bs×zt):=
 (xe s1 (l2.length:Int)).bind fun r3=>(at? l2 r3.1).bind fun (x5:Bs)=>some (x5,r3.2)
noncomputable def kb (s1:zt) (l2:(List Int)):Option (Int×zt):=
 (xe s1 (l2.length:Int)).bind fun r3=>(at? l2 r3.1).bind fun (x5:Int)=>some (x5,r3.2)
noncomputable def z0y (s1:zt) (low2:Int) (high3:Int):Option (Int×zt):=
 if decide (high3 < low2) then (some (low2,s1)) else ((xe s1 (wr ((wr (high3 - low2))+1))).bind fun r5=>some (wr (low2+r5.1),r5.2))
noncomputable def xd (s1:zt) (low2:Int) (high3:Int):Option (Int×zt):=
 (ki s1 12).bind fun r4=>if r4.1 then ((kb r4.2 [wr (low2 - 1),wr (high3+1),low2,high3,(-1099511627776),1099511627776]).bind fun r7=>some (r7.1,r7.2)) else ((z0y r4.2 low2 high3).bind fun r9=>some (r9.1,r9.2))
noncomputable def z5o (k7:Nat) (c4:(List Int)) (c5:Int) (l6:(List Bs)):Option (((List Int)×Int×(List Bs)) ⊕ ((List Bs)×zt)):=
 (jx (zt.mk c4 c5) ([[97],[97,58,42],[97,58,98],[97,58,98,58,42],[97,58,98,58,99],[98],[98,58,42],[98,58,99],[42]])).bind fun r11=>if l6.length+1≤1000000000 then (some (.inl (r11.2.L,r11.2.at_,(l6++[r11.1])))) else none
noncomputable def z9p (c4:(List Int)) (c5:Int) (l6:(List Bs)):Option ((List Bs)×zt):=
 some (l6,(zt.mk c4 c5))
noncomputable def z0x (s1:zt):Option ((List Bs)×zt):=
 (z0y s1 0 4).bind fun r2=>if r2.1≤1000000000 then rng (fun (k:Nat) (s:(List Int)×Int×(List Bs))=>z5o k s.1 s.2.1 s.2.2) (fun (s:(List Int)×Int×(List Bs))=>z9p s.1 s.2.1 s.2.2) r2.1.toNat 0 (r2.2.L,r2.2.at_,[]) else none
noncomputable def z8s (s1:zt):Option (Bs×zt):=
 (ki s1 25).bind fun r2=>if r2.1 then ((z7w [97,58] 10).bind fun r5=>if r5.length+[97].length≤1000000000 then ((jx r2.2 ([[],[97,58,42,58,98],[65],[97,58,58,98],[97,58],[42,42],[97,42],(r5++[97])])).bind fun r8=>some (r8.1,r8.2)) else none) else ((jx r2.2 ([[42],[97],[97,58,42],[97,58,98],[97,58,98,58,42],[97,58,98,58,99],[98],[98,58,42],[98,58,99],[99]])).bind fun r10=>some (r10.1,r10.2))
noncomputable def z5m (out17:(List Bs)) (c18:(List Int)) (c19:Int):Option ((List Bs)×zt):=
 some (out17,(zt.mk c18 c19))
noncomputable def z26 (out10:(List Bs)) (c11:(List Int)) (c12:Int):Option ((List Bs)×zt):=
 (ki (zt.mk c11 c12) 60).bind fun r13=>if r13.1 then (if 51≤1000000000 then (z5m (List.replicate 51 []) r13.2.L r13.2.at_) else none) else (z5m out10 r13.2.L r13.2.at_)
noncomputable def z8r (s1:zt):Option ((List Bs)×zt):=
 (z0x s1).bind fun r2=>(ki r2.2 6).bind fun r4=>if r4.1 then ((z8s r4.2).bind fun r7=>if r2.1.length+1≤1000000000 then (z26 (r2.1++[r7.1]) r7.2.L r7.2.at_) else none) else (z26 r2.1 r4.2.L r4.2.at_)
noncomputable def z5p (k34:Nat) (v30:Int) (l31:(List yp)) (c32:(List Int)) (c33:Int):Option ((Int×(List yp)×(List Int)×Int) ⊕ (((List ya)×(List Int)×Int) ⊕ (zx×zt))):=
 (kb (zt.mk c32 c33) [0,100,500,1500]).bind fun r39=>if l31.length+1≤1000000000 then ((kb r39.2 [1,9,100]).bind fun r42=>some (.inl (wr (v30+r42.1),(l31++[(yp.mk v30 r39.1)]),r42.2.L,r42.2.at_))) else none
noncomputable def Qd (c44:(List Int)) (c45:Int) (l46:(List ya)):Option (((List ya)×(List Int)×Int) ⊕ (zx×zt)):=
 some (.inl (l46,c44,c45))
noncomputable def z5r (l4:(List ya)) (x10:Bs) (r16:(Bs×zt)) (r18:(Int×zt)) (r20:(Int×zt)) (r22:(Int×zt)) (r24:(Int×zt)) (r26:(Bool×zt)) (v30:Int) (l31:(List yp)) (c32:(List Int)) (c33:Int):Option (((List ya)×(List Int)×Int) ⊕ (zx×zt)):=
 if l4.length+1≤1000000000 then (Qd c32 c33 (l4++[(ya.mk x10 r16.1 r18.1 r20.1 l31 r22.1 r24.1 r26.1)])) else none
noncomputable def z5q (k7:Nat) (x10:Bs) (l4:(List ya)) (c5:(List Int)) (c6:Int):Option (((List ya)×(List Int)×Int) ⊕ (zx×zt)):=
 (ki (zt.mk c5 c6) 5).bind fun r13=>if r13.1 then (Qd r13.2.L r13.2.at_ l4) else ((jx r13.2 ([[115,104,111,112],[115,104,111,112],[109,97,112,115]])).bind fun r16=>(kb r16.2 [0,0,1000,3000,31]).bind fun r18=>(kb r18.2 [0,10,100]).bind fun r20=>(kb r20.2 [(-1),(-1),0,1000]).bind fun r22=>(kb r22.2 [0,0,1,2]).bind fun r24=>(ki r24.2 2).bind fun r26=>(kb r26.2 [0,1,2,3]).bind fun r28=>if r28.1≤1000000000 then rng (fun (k:Nat) (s:Int×(List yp)×(List Int)×Int)=>z5p k s.1 s.2.1 s.2.2.1 s.2.2.2) (fun (s:Int×(List yp)×(List Int)×Int)=>z5r l4 x10 r16 r18 r20 r22 r24 r26 s.1 s.2.1 s.2.2.1 s.2.2.2) r28.1.toNat 0 (1,([]:List yp),r28.2.L,r28.2.at_) else none)
noncomputable def z5s (r2:((List Bs)×zt)) (l4:(List ya)) (c5:(List Int)) (c6:Int):Option (zx×zt):=
 some ((zx.mk ([(yh.mk [109,97,112,115] r2.1),(yh.mk [115,104,111,112] ([[111,114,100,101,114,115]]))]) l4),(zt.mk c5 c6))
noncomputable def z2j (s1:zt):Option (zx×zt):=
 (z0x s1).bind fun r2=>if ([[98,105,103],[102,114,101,101],[109,105,100],[115,109,97,108,108]]).length≤1000000000 then forL (fun (k:Nat) (x:Bs) (s:(List ya)×(List Int)×Int)=>z5q k x s.1 s.2.1 s.2.2) (fun (s:(List ya)×(List Int)×Int)=>z5s r2 s.1 s.2.1 s.2.2) 0 ([[98,105,103],[102,114,101,101],[109,105,100],[115,109,97,108,108]]) (([]:List ya),r2.2.L,r2.2.at_) else none
noncomputable def y3s (c:zx) (s:zt):Option (zx×zt):=
 (xe s (c.Plans.length:Int)).bind fun r13=>(at? c.Plans r13.1).bind fun (x15:ya)=>(xe r13.2 6).bind fun r17=>if decide (r17.1=0) then ((jx r17.2 ([[],[65],[98,105,103]])).bind fun r20=>some ((zx.mk c.Products (c.Plans.set r13.1.toNat (ya.mk r20.1 x15.Product x15.Base x15.Free x15.Tiers x15.Limit x15.Trial x15.Asked))),r20.2)) else (if decide (r17.1=1) then ((jx r17.2 ([[110,111,110,101],[]])).bind fun r20=>some ((zx.mk c.Products (c.Plans.set r13.1.toNat (ya.mk x15.Key r20.1 x15.Base x15.Free x15.Tiers x15.Limit x15.Trial x15.Asked))),r20.2)) else (if decide (r17.1=2) then ((xd r17.2 0 1000).bind fun r20=>(xd r20.2 0 1000).bind fun r22=>some ((zx.mk c.Products (c.Plans.set r13.1.toNat (ya.mk x15.Key x15.Product r20.1 r22.1 x15.Tiers x15.Limit x15.Trial x15.Asked))),r22.2)) else (if decide (r17.1=3) then ((xd r17.2 1 100).bind fun r20=>(xd r20.2 0 1000000).bind fun r22=>if x15.Tiers.length+1≤1000000000 then some ((zx.mk c.Products (c.Plans.set r13.1.toNat (ya.mk x15.Key x15.Product x15.Base x15.Free (x15.Tiers++[(yp.mk r20.1 r22.1)]) x15.Limit x15.Trial x15.Asked))),r22.2) else none) else (if decide (r17.1=4) then ((xd r17.2 (-1) 100).bind fun r20=>(xd r20.2 0 132).bind fun r22=>some ((zx.mk c.Products (c.Plans.set r13.1.toNat (ya.mk x15.Key x15.Product x15.Base x15.Free x15.Tiers r20.1 r22.1 x15.Asked))),r22.2)) else ((jx r17.2 ([[122,122],[115,104,111,112],[]])).bind fun r20=>(z8r r20.2).bind fun r22=>if c.Products.length+1≤1000000000 then some ((zx.mk (c.Products++[(yh.mk r20.1 r22.1)]) c.Plans),r22.2) else none)))))
noncomputable def z8x (s1:zt):Option (zx×zt):=
 (z2j s1).bind fun r2=>if decide ((r2.1.Plans.length:Int) > 0) then ((ki r2.2 12).bind fun r6=>if r6.1 then y3s r2.1 r6.2 else some (r2.1,r6.2)) else some (r2.1,r2.2)
noncomputable def z8u (s1:zt):Option ((List zy)×zt):=
 (jx s1 ([[97,110,110],[98,111,98]])).bind fun r2=>(kb r2.2 [1,2,3,3]).bind fun r4=>if (0:Int)≤r4.1∧r4.1≤(([(zy.mk [97,112,112,49] [97,110,110]),(zy.mk [97,112,112,50] r2.1),(zy.mk [97,112,112,51] [98,111,98])]:(List zy)).length:Int) then (some ((([(zy.mk [97,112,112,49] [97,110,110]),(zy.mk [97,112,112,50] r2.1),(zy.mk [97,112,112,51] [98,111,98])]:(List zy)).take r4.1.toNat),r4.2)) else none
noncomputable def z5v (out12:(List zy)) (c13:(List Int)) (c14:Int):Option ((List zy)×zt):=
 some (out12,(zt.mk c13 c14))
noncomputable def z8y (s1:zt):Option ((List zy)×zt):=
 (z8u s1).bind fun r2=>(ki r2.2 20).bind fun r4=>if r4.1 then ((jx r4.2 ([[],[97,112,112,49],[122,122]])).bind fun r7=>(jx r7.2 ([[97,110,110],[]])).bind fun r9=>if r2.1.length+1≤1000000000 then (z5v (r2.1++[(zy.mk r7.1 r9.1)]) r9.2.L r9.2.at_) else none) else (z5v r2.1 r4.2.L r4.2.at_)
noncomputable def y1a (i4:Int) (data28:(List zk)):Option ((Int×(List zk)) ⊕ ((List zk))):=
 some (.inl (wr (i4+1),data28))
noncomputable def z65 (i4:Int) (j8:Int) (l9:(List zk)) (v20:Bool):Option ((Int×(List zk)) ⊕ ((Int×(List zk)) ⊕ ((List zk)))):=
 if v20 then ((at? l9 (wr (j8 - 1))).bind fun (x22:zk)=>(at? l9 j8).bind fun (x24:zk)=>(at? (l9.set j8.toNat x22) (wr (j8 - 1))).bind fun (x26:zk)=>some (.inl (wr (j8 - 1),((l9.set j8.toNat x22).set ((wr (j8 - 1)).toNat) x24)))) else (Option.map .inr (y1a i4 l9))
noncomputable def y5q (a2:Int) (p3:zk→zk→Option (Int)) (i4:Int) (j8:Int) (l9:(List zk)):Option ((Int×(List zk)) ⊕ ((Int×(List zk)) ⊕ ((List zk)))):=
 if decide (a2 < j8) then ((at? l9 j8).bind fun (x13:zk)=>(at? l9 (wr (j8 - 1))).bind fun (x15:zk)=>(p3 x13 x15).bind fun r17=>z65 i4 j8 l9 (decide (r17 < 0))) else (z65 i4 j8 l9 false)
noncomputable def y5r (a2:Int) (b3:Int) (p3:zk→zk→Option (Int)) (i4:Int) (l5:(List zk)):Option ((Int×(List zk)) ⊕ ((List zk))):=
 if decide (i4 < b3) then (iter (fun (s:Int×(List zk))=>y5q a2 p3 i4 s.1 s.2) (i4,l5)) else (some (.inr l5))
noncomputable def y2h (data1:(List zk)) (a2:Int) (b3:Int) (p3:zk→zk→Option (Int)):Option ((List zk)):=
 iter (fun (s:Int×(List zk))=>y5r a2 b3 p3 s.1 s.2) (wr (a2+1),data1)
noncomputable def y06 (blockSize16:Int):Option (Int ⊕ ((List zk))):=
 some (.inl (wr (blockSize16 * 2)))
noncomputable def y07 (n2:Int) (blockSize16:Int) (a23:Int):Option (Int ⊕ ((List zk))):=
 if decide ((wr (a23+blockSize16)) < n2) then none else (y06 blockSize16)
noncomputable def y5j (n2:Int) (blockSize16:Int) (a19:Int) (b20:Int):Option ((Int×Int) ⊕ (Int ⊕ ((List zk)))):=
 if decide (b20≤n2) then none else (Option.map .inr (y07 n2 blockSize16 a19))
noncomputable def y5k (n2:Int) (r13:((List zk))) (blockSize16:Int):Option (Int ⊕ ((List zk))):=
 if decide (blockSize16 < n2) then (iter (fun (s:Int×Int)=>y5j n2 blockSize16 s.1 s.2) (0,wr (2 * blockSize16))) else (some (.inr r13))
noncomputable def y08 (n2:Int) (p2:zk→zk→Option (Int)) (a11:Int) (data12:(List zk)):Option ((List zk)):=
 (y2h data12 a11 n2 p2).bind fun r13=>if r13.length=data12.length then (iter (fun (s:Int)=>y5k n2 r13 s) 20) else none
noncomputable def y5l (n2:Int) (p2:zk→zk→Option (Int)) (a3:Int) (b4:Int) (l5:(List zk)):Option ((Int×Int×(List zk)) ⊕ ((List zk))):=
 if decide (b4≤n2) then ((y2h l5 a3 b4 p2).bind fun r8=>if r8.length=l5.length then (some (.inl (b4,wr (b4+20),r8))) else none) else (Option.map .inr (y08 n2 p2 a3 l5))
noncomputable def y2e (data1:(List zk)) (n2:Int) (p2:zk→zk→Option (Int)):Option ((List zk)):=
 iter (fun (s:Int×Int×(List zk))=>y5l n2 p2 s.1 s.2.1 s.2.2) (0,20,data1)
noncomputable def z4h (x1:(List zk)) (p1:zk→zk→Option (Int)):Option ((List zk)):=
 (y2e x1 (x1.length:Int) p1).bind fun r2=>if r2.length=x1.length then some r2 else none
noncomputable def Yy (a1:zk) (b2:zk):Option (Int):=
 if decide (a1.At≠b2.At) then ((z4o (wr (a1.At - b2.At))).bind fun r4=>some r4) else ((z2b [a1.App,a1.Product] [b2.App,b2.Product]).bind fun r6=>some r6)
noncomputable def z68 (v15:Int) (v28:Int) (v29:(List zk)):Option ((Int×Int×(List zk)) ⊕ (Int ⊕ ((List zk)))):=
 some (.inl (v28,wr (v15+1),v29))
noncomputable def y1f (v30:Int) (v31:(List zk)):Option (Int ⊕ ((List zk))):=
 if (0:Int)≤v30∧v30 < (v31.length:Int) then (if (0:Int)≤v30∧v30≤((v31.take v30.toNat++List.replicate (v31.length - v30.toNat) (zk.mk 0 [] [] 0 [])).length:Int) then (some (.inr ((v31.take v30.toNat++List.replicate (v31.length - v30.toNat) (zk.mk 0 [] [] 0 [])).take v30.toNat))) else none) else none
noncomputable def y54 (p1:zk→zk→Option (Bool)) (v3:Int) (v14:Int) (v15:Int) (l16:(List zk)):Option ((Int×Int×(List zk)) ⊕ (Int ⊕ ((List zk)))):=
 if decide (v15 < ((l16.drop v3.toNat).length:Int)) then ((at? (l16.drop v3.toNat) v15).bind fun (x19:zk)=>(at? (l16.drop v3.toNat) (wr (v15 - 1))).bind fun (x21:zk)=>(p1 x19 x21).bind fun r23=>if !r23 then ((at? l16 v14).bind fun (x26:zk)=>z68 v15 (wr (v14+1)) (l16.set v14.toNat x19)) else (z68 v15 v14 l16)) else (Option.map .inr (y1f v14 l16))
noncomputable def y1g (v1:(List zk)):Option ((List zk)):=
 some v1
noncomputable def y55 (v1:(List zk)) (p1:zk→zk→Option (Bool)) (v3:Int):Option (Int ⊕ ((List zk))):=
 if decide (v3 < (v1.length:Int)) then ((at? v1 v3).bind fun (x6:zk)=>(at? v1 (wr (v3 - 1))).bind fun (x8:zk)=>(p1 x6 x8).bind fun r10=>if r10 then (if (0:Int)≤v3∧v3 < (v1.length:Int) then (iter (fun (s:Int×Int×(List zk))=>y54 p1 v3 s.1 s.2.1 s.2.2) (v3,1,v1)) else none) else (some (.inl (wr (v3+1))))) else (Option.map .inr (y1g v1))
noncomputable def y7c (v1:(List zk)) (p1:zk→zk→Option (Bool)):Option ((List zk)):=
 if decide ((v1.length:Int) < 2) then some v1 else (iter (fun (s:Int)=>y55 v1 p1 s) 1)
noncomputable def z8v (a1:zk) (b2:zk):Option (Bool):=
 (Yy a1 b2).bind fun r3=>some (decide (r3=0))
noncomputable def y20 (s1:zt):Option (Bs×zt):=
 (jx s1 ([[97,112,112,49],[97,112,112,49],[97,112,112,49],[97,112,112,50],[97,112,112,51],[110,111,110,101]])).bind fun r2=>some (r2.1,r2.2)
noncomputable def y2z (s1:zt):Option (Bs×zt):=
 (jx s1 ([[115,104,111,112],[115,104,111,112],[115,104,111,112],[109,97,112,115],[110,111,110,101]])).bind fun r2=>some (r2.1,r2.2)
noncomputable def z2x (out23:(List zw)) (refused24:(List Int)):Option (((List zw)×(List Int)) ⊕ ((List zw)×(List Int))):=
 some (.inl (out23,refused24))
noncomputable def y3d (c1:zx) (app3:Bs) (product4:Bs) (k9:Nat) (x12:zk) (l7:(List zw)) (l8:(List Int)):Option (((List zw)×(List Int)) ⊕ ((List zw)×(List Int))):=
 if ((decide (x12.App≠app3)) || (decide (x12.Product≠product4))) then (z2x l7 l8) else ((at? l7 (wr ((l7.length:Int) - 1))).bind fun (x16:zw)=>(z0w c1 x16 x12).bind fun r18=>if r18.2 then (if l7.length+1≤1000000000 then (z2x (l7++[r18.1]) l8) else none) else (if l8.length+1≤1000000000 then (z2x l7 (l8++[(k9:Int)])) else none))
noncomputable def y3e (l7:(List zw)) (l8:(List Int)):Option ((List zw)×(List Int)):=
 some (l7,l8)
noncomputable def z8k (c1:zx) (l2:(List zk)) (app3:Bs) (product4:Bs):Option ((List zw)×(List Int)):=
 (z0v ).bind fun r5=>if l2.length≤1000000000 then forL (fun (k:Nat) (x:zk) (s:(List zw)×(List Int))=>y3d c1 app3 product4 k x s.1 s.2) (fun (s:(List zw)×(List Int))=>y3e s.1 s.2) 0 l2 (([r5]:(List zw)),[]) else none
noncomputable def z5u (v117:(List Bs)):Option ((List Bs) ⊕ ((Int×(List Int)×Int×(List zk)) ⊕ ((List zk)×zt))):=
 some (.inl v117)
noncomputable def y3o (r25:(Bs×zt)) (k46:Nat) (x49:ya) (l45:(List Bs)):Option ((List Bs) ⊕ ((Int×(List Int)×Int×(List zk)) ⊕ ((List zk)×zt))):=
 if decide (x49.Product=r25.1) then (if l45.length+1≤1000000000 then (z5u (l45++[x49.Key])) else none) else (z5u l45)
noncomputable def z03 (v118:Int) (v119:(List zk)) (c120:(List Int)) (c121:Int):Option ((Int×(List Int)×Int×(List zk)) ⊕ ((List zk)×zt)):=
 some (.inl (v118,c120,c121,v119))
noncomputable def Yk (v5:Int) (l8:(List zk)) (r21:(Int×zt)) (c105:(List Int)) (c106:Int) (c107:Int) (c108:Bs) (c109:Bs) (c110:Int) (c111:Bs):Option ((Int×(List Int)×Int×(List zk)) ⊕ ((List zk)×zt)):=
 if l8.length+1≤1000000000 then (z03 (wr (v5+r21.1)) (l8++[(zk.mk c107 c108 c109 c110 c111)]) c105 c106) else none
noncomputable def z27 (v5:Int) (l8:(List zk)) (r21:(Int×zt)) (r25:(Bs×zt)) (c44:Bs) (c76:Int) (c83:(List Int)) (c84:Int) (c85:Bs):Option ((Int×(List Int)×Int×(List zk)) ⊕ ((List zk)×zt)):=
 (ki (zt.mk c83 c84) 60).bind fun r86=>if r86.1 then ((xe r86.2 5).bind fun r89=>if decide (r89.1=0) then ((y20 r89.2).bind fun r92=>Yk v5 l8 r21 r92.2.L r92.2.at_ (wr (v5+r21.1)) r92.1 r25.1 c76 c85) else (if decide (r89.1=1) then ((y2z r89.2).bind fun r95=>Yk v5 l8 r21 r95.2.L r95.2.at_ (wr (v5+r21.1)) c44 r95.1 c76 c85) else (if decide (r89.1=2) then ((xd r89.2 1 6).bind fun r98=>Yk v5 l8 r21 r98.2.L r98.2.at_ (wr (v5+r21.1)) c44 r25.1 r98.1 c85) else (if decide (r89.1=3) then ((jx r89.2 ([[98,105,103],[110,111,110,101],[]])).bind fun r101=>Yk v5 l8 r21 r101.2.L r101.2.at_ (wr (v5+r21.1)) c44 r25.1 c76 r101.1) else ((xd r89.2 0 1000).bind fun r103=>Yk v5 l8 r21 r103.2.L r103.2.at_ r103.1 c44 r25.1 c76 c85))))) else (Yk v5 l8 r21 r86.2.L r86.2.at_ (wr (v5+r21.1)) c44 r25.1 c76 c85)
noncomputable def Yl (v5:Int) (l8:(List zk)) (r21:(Int×zt)) (r25:(Bs×zt)) (c44:Bs) (l45:(List Bs)) (c74:(List Int)) (c75:Int) (c76:Int):Option ((Int×(List Int)×Int×(List zk)) ⊕ ((List zk)×zt)):=
 if decide (c76=1) then (if decide ((l45.length:Int)=0) then (z03 (wr (v5+r21.1)) l8 c74 c75) else ((xe (zt.mk c74 c75) (l45.length:Int)).bind fun r79=>(at? l45 r79.1).bind fun (x81:Bs)=>z27 v5 l8 r21 r25 c44 c76 r79.2.L r79.2.at_ x81)) else (z27 v5 l8 r21 r25 c44 c76 c74 c75 [])
noncomputable def z01 (v2:zx) (v5:Int) (l8:(List zk)) (r21:(Int×zt)) (r25:(Bs×zt)) (r27:(Int×zt)) (c44:Bs) (l45:(List Bs)) (v57:Bool) (c58:(List Int)) (c59:Int):Option ((Int×(List Int)×Int×(List zk)) ⊕ ((List zk)×zt)):=
 if v57 then ((z8k v2 l8 c44 r25.1).bind fun r61=>(at? r61.1 (wr ((r61.1.length:Int) - 1))).bind fun (x63:zw)=>if decide (x63.State=1) then ((kb (zt.mk c58 c59) [2,2,3]).bind fun r66=>Yl v5 l8 r21 r25 c44 l45 r66.2.L r66.2.at_ r66.1) else (if decide (x63.State=2) then ((kb (zt.mk c58 c59) [4,6,1]).bind fun r69=>Yl v5 l8 r21 r25 c44 l45 r69.2.L r69.2.at_ r69.1) else (if decide (x63.State=3) then ((kb (zt.mk c58 c59) [5,6]).bind fun r72=>Yl v5 l8 r21 r25 c44 l45 r72.2.L r72.2.at_ r72.1) else (Yl v5 l8 r21 r25 c44 l45 c58 c59 1)))) else (Yl v5 l8 r21 r25 c44 l45 c58 c59 r27.1)
noncomputable def y3q (v2:zx) (v5:Int) (l8:(List zk)) (r21:(Int×zt)) (r25:(Bs×zt)) (r27:(Int×zt)) (c42:(List Int)) (c43:Int) (c44:Bs) (l45:(List Bs)):Option ((Int×(List Int)×Int×(List zk)) ⊕ ((List zk)×zt)):=
 (ki (zt.mk c42 c43) 4).bind fun r50=>if !r50.1 then ((z4w v2).bind fun r54=>z01 v2 v5 l8 r21 r25 r27 c44 l45 (decide (r54=0)) r50.2.L r50.2.at_) else (z01 v2 v5 l8 r21 r25 r27 c44 l45 false r50.2.L r50.2.at_)
noncomputable def z02 (v2:zx) (v5:Int) (l8:(List zk)) (r21:(Int×zt)) (r25:(Bs×zt)) (r27:(Int×zt)) (c42:(List Int)) (c43:Int) (c44:Bs):Option ((Int×(List Int)×Int×(List zk)) ⊕ ((List zk)×zt)):=
 if v2.Plans.length≤1000000000 then forL (fun (k:Nat) (x:ya) (s:(List Bs))=>y3o r25 k x s) (fun (s:(List Bs))=>y3q v2 v5 l8 r21 r25 r27 c42 c43 c44 s) 0 v2.Plans [] else none
noncomputable def z5t (v2:zx) (v3:(List zy)) (v5:Int) (l8:(List zk)) (r21:(Int×zt)) (r23:(Bs×zt)) (r25:(Bs×zt)) (r27:(Int×zt)) (v34:Bool) (c35:(List Int)) (c36:Int):Option ((Int×(List Int)×Int×(List zk)) ⊕ ((List zk)×zt)):=
 if v34 then ((xe (zt.mk c35 c36) (v3.length:Int)).bind fun r38=>(at? v3 r38.1).bind fun (x40:zy)=>z02 v2 v5 l8 r21 r25 r27 r38.2.L r38.2.at_ x40.Key) else (z02 v2 v5 l8 r21 r25 r27 c35 c36 r23.1)
noncomputable def y3p (v2:zx) (v3:(List zy)) (k9:Nat) (v5:Int) (c6:(List Int)) (c7:Int) (l8:(List zk)):Option ((Int×(List Int)×Int×(List zk)) ⊕ ((List zk)×zt)):=
 (kb (zt.mk c6 c7) [1,5,86400000,864000000,2592000000,wr (2592000000 - (Int.tmod v5 2592000000))]).bind fun r21=>(jx r21.2 ([[97,112,112,49],[97,112,112,49],[97,112,112,50]])).bind fun r23=>(jx r23.2 ([[115,104,111,112],[115,104,111,112],[109,97,112,115]])).bind fun r25=>(z0y r25.2 1 6).bind fun r27=>if decide (0 < (v3.length:Int)) then ((ki r27.2 3).bind fun r31=>z5t v2 v3 v5 l8 r21 r23 r25 r27 r31.1 r31.2.L r31.2.at_) else (z5t v2 v3 v5 l8 r21 r23 r25 r27 false r27.2.L r27.2.at_)
noncomputable def y3r (v5:Int) (c6:(List Int)) (c7:Int) (l8:(List zk)):Option ((List zk)×zt):=
 (z4h l8 (fun (a0:zk) (a1:zk)=>Yy a0 a1)).bind fun r12=>if r12.length=l8.length then ((ki (zt.mk c6 c7) 60).bind fun r15=>if r15.1 then (some (r12,r15.2)) else ((y7c r12 (fun (a0:zk) (a1:zk)=>z8v a0 a1)).bind fun r18=>some (r18,r15.2))) else none
noncomputable def z8w (s1:zt) (v2:zx) (v3:(List zy)) (v4:Int):Option ((List zk)×zt):=
 if v4≤1000000000 then rng (fun (k:Nat) (s:Int×(List Int)×Int×(List zk))=>y3p v2 v3 k s.1 s.2.1 s.2.2.1 s.2.2.2) (fun (s:Int×(List Int)×Int×(List zk))=>y3r s.1 s.2.1 s.2.2.1 s.2.2.2) v4.toNat 0 (0,s1.L,s1.at_,[]) else none
noncomputable def y2y (v1:Int):Option (Bool):=
 (ku v1 0 345686399999).bind fun r2=>some r2
noncomputable def z5h (v47:Bool):Option (Unit ⊕ (Int)):=
 if v47 then (some (.inr 7)) else (some (.inl ()))
noncomputable def z24 (v3:(List zk)) (k8:Nat) (x11:zk) (v38:Bool):Option (Unit ⊕ (Int)):=
 if v38 then (some (.inr 16)) else (if decide (0 < (k8:Int)) then ((at? v3 ((k8:Int) - 1)).bind fun (x42:zk)=>(Yy x42 x11).bind fun r44=>z5h (decide (0≤r44))) else (z5h false))
noncomputable def z5i (v1:zx) (v3:(List zk)) (k8:Nat) (x11:zk) (r14:(Int)) (v26:Bool):Option (Unit ⊕ (Int)):=
 if v26 then (some (.inr 8)) else ((ku x11.Kind 1 6).bind fun r28=>if !r28 then (some (.inr 4)) else (if ((!(decide (x11.Kind=1))) && (decide (x11.Plan≠[]))) then (some (.inr 3)) else (if ((decide (x11.Kind=1)) && (decide (r14 < 0))) then (some (.inr 8)) else (if decide (x11.Kind=1) then ((at? v1.Plans r14).bind fun (x35:ya)=>z24 v3 k8 x11 (decide (x35.Product≠x11.Product))) else (z24 v3 k8 x11 false)))))
noncomputable def z9o (v1:zx) (v2:(List zy)) (v3:(List zk)) (k8:Nat) (x11:zk):Option (Unit ⊕ (Int)):=
 (xc v1 x11.Plan).bind fun r14=>(y2y x11.At).bind fun r16=>if !r16 then (some (.inr 1)) else ((z4z v2 x11.App).bind fun r19=>if decide (r19 < 0) then (z5i v1 v3 k8 x11 r14 true) else ((z2h v1 x11.Product).bind fun r23=>z5i v1 v3 k8 x11 r14 (decide (r23 < 0))))
noncomputable def y72:Option (Int):=
 some 0
noncomputable def z8o (v1:zx) (v2:(List zy)) (v3:(List zk)):Option (Int):=
 (z4s v1 v2).bind fun r4=>if decide (r4≠0) then some r4 else (if decide (1000 < (v3.length:Int)) then some 2 else (if v3.length≤1000000000 then forL (fun (k:Nat) (x:zk) (s:Unit)=>z9o v1 v2 v3 k x) (fun (s:Unit)=>y72) 0 v3 () else none))
noncomputable def z80 (s1:zt) (many2:Int):Option (zx×(List zy)×(List zk)×Int×zt):=
 (z8x s1).bind fun r3=>(z8y r3.2).bind fun r5=>(z8w r5.2 r3.1 r5.1 many2).bind fun r7=>(z8o r3.1 r5.1 r7.1).bind fun r9=>some (r3.1,r5.1,r7.1,r9,r7.2)
noncomputable def z8b (c1:zx) (plan2:Bs) (calls3:Int):Option (Int×Int):=
 (z2e c1).bind fun r4=>if decide (r4≠0) then (some (0,r4)) else ((Yh c1 plan2).bind fun r7=>if !r7.2 then (some (0,8)) else ((ur calls3 0 1000000000000).bind fun r10=>if r10 then (some (0,1)) else ((z4j r7.1 calls3).bind fun r13=>some (r13,0))))
noncomputable def Wd  : Option (Bool):=
 (z8b (zx.mk ([(yh.mk [112] [])]) ([(ya.mk [113] [112] 0 0 [(yp.mk 1 2000)] 0 0 false)])) [113] 3).bind fun r1=>some ((decide (r1.2=0)) && (decide (r1.1=6)))
noncomputable def z5n (out34:(List zz)) (c35:(List Int)) (c36:Int):Option (((List Int)×Int×(List zz)) ⊕ (((List Int)×Int×(List zz)) ⊕ (((List Int)×Int×(List zz)) ⊕ ((List zz)×zt)))):=
 some (.inl (c35,c36,out34))
noncomputable def y3l (k6:Nat) (x16:zy) (k22:Nat) (x25:Bs) (c19:(List Int)) (c20:Int) (l21:(List zz)):Option (((List Int)×Int×(List zz)) ⊕ (((List Int)×Int×(List zz)) ⊕ (((List Int)×Int×(List zz)) ⊕ ((List zz)×zt)))):=
 (ki (zt.mk c19 c20) 2).bind fun r28=>if r28.1 then ((kb r28.2 [0,5,10,11,100,150,1000]).bind fun r31=>if l21.length+1≤1000000000 then (z5n (l21++[(zz.mk x16.Key x25 (k6:Int) r31.1)]) r31.2.L r31.2.at_) else none) else (z5n l21 r28.2.L r28.2.at_)
noncomputable def y73 (c19:(List Int)) (c20:Int) (l21:(List zz)):Option (((List Int)×Int×(List zz)) ⊕ (((List Int)×Int×(List zz)) ⊕ ((List zz)×zt))):=
 some (.inl (c19,c20,l21))
noncomputable def y3m (k6:Nat) (k13:Nat) (x16:zy) (c10:(List Int)) (c11:Int) (l12:(List zz)):Option (((List Int)×Int×(List zz)) ⊕ (((List Int)×Int×(List zz)) ⊕ ((List zz)×zt))):=
 if ([[109,97,112,115],[115,104,111,112]]).length≤1000000000 then forL (fun (k:Nat) (x:Bs) (s:(List Int)×Int×(List zz))=>y3l k6 x16 k x s.1 s.2.1 s.2.2) (fun (s:(List Int)×Int×(List zz))=>y73 s.1 s.2.1 s.2.2) 0 ([[109,97,112,115],[115,104,111,112]]) (c10,c11,l12) else none
noncomputable def y74 (c10:(List Int)) (c11:Int) (l12:(List zz)):Option (((List Int)×Int×(List zz)) ⊕ ((List zz)×zt)):=
 some (.inl (c10,c11,l12))
noncomputable def y3n (apps2:(List zy)) (k6:Nat) (c3:(List Int)) (c4:Int) (l5:(List zz)):Option (((List Int)×Int×(List zz)) ⊕ ((List zz)×zt)):=
 if apps2.length≤1000000000 then forL (fun (k:Nat) (x:zy) (s:(List Int)×Int×(List zz))=>y3m k6 k x s.1 s.2.1 s.2.2) (fun (s:(List Int)×Int×(List zz))=>y74 s.1 s.2.1 s.2.2) 0 apps2 (c3,c4,l5) else none
noncomputable def y75 (c3:(List Int)) (c4:Int) (l5:(List zz)):Option ((List zz)×zt):=
 some (l5,(zt.mk c3 c4))
noncomputable def z8t (s1:zt) (apps2:(List zy)):Option ((List zz)×zt):=
 if 3≤1000000000 then rng (fun (k:Nat) (s:(List Int)×Int×(List zz))=>y3n apps2 k s.1 s.2.1 s.2.2) (fun (s:(List Int)×Int×(List zz))=>y75 s.1 s.2.1 s.2.2) 3 0 (s1.L,s1.at_,[]) else none
noncomputable def z5l (out24:(List zz)) (c25:(List Int)) (c26:Int):Option ((List zz)×zt):=
 some (out24,(zt.mk c25 c26))
noncomputable def z25 (r3:((List zz)×zt)) (v10:Bool) (c11:(List Int)) (c12:Int):Option ((List zz)×zt):=
 if v10 then ((xe (zt.mk c11 c12) (r3.1.length:Int)).bind fun r14=>(at? r3.1 r14.1).bind fun (x16:zz)=>(jx r14.2 ([x16.App,[110,111,110,101]])).bind fun r18=>(xd r18.2 0 132).bind fun r20=>(xd r20.2 0 1000).bind fun r22=>z5l (((r3.1.set r14.1.toNat (zz.mk r18.1 x16.Product x16.Month x16.Calls)).set r14.1.toNat (zz.mk r18.1 x16.Product r20.1 x16.Calls)).set r14.1.toNat (zz.mk r18.1 x16.Product r20.1 r22.1)) r22.2.L r22.2.at_) else (z5l r3.1 c11 c12)
noncomputable def z8q (s1:zt) (apps2:(List zy)):Option ((List zz)×zt):=
 (z8t s1 apps2).bind fun r3=>if decide (0 < (r3.1.length:Int)) then ((ki r3.2 15).bind fun r7=>z25 r3 r7.1 r7.2.L r7.2.at_) else (z25 r3 false r3.2.L r3.2.at_)
noncomputable def z8z (is1:Bool) (e2:Int):Option (Int):=
 if is1 then some e2 else some 0
noncomputable def y3t (k2:Nat) (x5:Int):Option (Unit ⊕ (Int)):=
 if decide (x5≠0) then (some (.inr x5)) else (some (.inl ()))
noncomputable def y3u:Option (Int):=
 some 0
noncomputable def z81 (l1:(List Int)):Option (Int):=
 if l1.length≤1000000000 then forL (fun (k:Nat) (x:Int) (s:Unit)=>y3t k x) (fun (s:Unit)=>y3u) 0 l1 () else none
noncomputable def y5y (p1:zm→Option (Bool)) (k2:Nat) (x5:zm):Option (Unit ⊕ (Int)):=
 (p1 x5).bind fun r8=>if r8 then (some (.inr (k2:Int))) else (some (.inl ()))
noncomputable def y5z:Option (Int):=
 some (-1)
noncomputable def y7b (s1:(List zm)) (p1:zm→Option (Bool)):Option (Int):=
 if s1.length≤1000000000 then forL (fun (k:Nat) (x:zm) (s:Unit)=>y5y p1 k x) (fun (s:Unit)=>y5z) 0 s1 () else none
noncomputable def y2o (s1:(List zm)) (p1:zm→Option (Bool)):Option (Bool):=
 (y7b s1 p1).bind fun r2=>some (decide (0≤r2))
noncomputable def z2l (y1:zm):Option (Bool):=
 some ((decide (1000000000000 < y1.Cents)) || (decide (y1.Cents < (-1000000000000))))
end Go.Proofs.YtnnfdgngnoamoaaGreatDoor
