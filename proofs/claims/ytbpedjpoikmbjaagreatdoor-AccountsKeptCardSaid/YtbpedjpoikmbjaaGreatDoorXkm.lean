import Derived.Test.YtbpedjpoikmbjaaGreatDoorMc
import Derived.Test.YtbpedjpoikmbjaaGreatDoorRng
import Derived.Test.YtbpedjpoikmbjaaGreatDoorMl
namespace Go.Proofs.YtbpedjpoikmbjaaGreatDoor
noncomputable section
set_option linter.unusedVariables false
set_option maxRecDepth 20000
structure ya where
 State:Int
 Plan:Bs
 Since:Int
 First:Int
structure yl where
 Key:Bs
 Scopes:(List Bs)
structure yu where
 From:Int
 Cents:Int
structure yd where
 Key:Bs
 Product:Bs
 Base:Int
 Free:Int
 Tiers:(List yu)
 Limit:Int
 Trial:Int
 Asked:Bool
structure zw where
 Products:(List yl)
 Plans:(List yd)
structure zj where
 At:Int
 App:Bs
 Product:Bs
 Kind:Int
 Plan:Bs
structure qu where
 on_:ya
 last_:ya
structure zx where
 app_:Bs
 product_:Bs
structure qj where
 App:Bs
 Product:Bs
 What:Bs
 Calls:Int
 Cents:Int
structure zz where
 App:Bs
 Product:Bs
 Month:Int
 Calls:Int
structure zn where
 Key:Bs
 Owner:Bs
structure zu where
 Owner:Bs
 Month:Int
 Lines:(List qj)
 Cents:Int
structure zq where
 L:(List Int)
 at_:Int
structure qc where
 At:Int
 Owner:Bs
 Cents:Int
def y80  : Option ya:=
 some (ya.mk 0 [] 0 (-1))
def z04 (state1:Int):Option Bool:=
 some ((decide (state1=2)) || (decide (state1=3)))
def z8z (i12:Int) (v20:Bool):Option (Int×Bool):=
 some (i12,v20)
def y2x (x1:List yd) (target2:Bs) (p2:yd->Bs->Option Int) (i12:Int):Option (Int×Bool):=
 if decide (i12 < (x1.length:Int)) then ((at? x1 i12).bind λ(x15:yd)=>(p2 x15 target2).bind λr17=>z8z i12 (decide (r17=0))) else (z8z i12 false)
def y7p (x1:List yd) (target2:Bs) (p2:yd->Bs->Option Int) (i3:Int) (j4:Int):Option ((Int×Int) ⊕ (Int×Bool)):=
 if decide (i3 < j4) then ((at? x1 (IntKind.wrap .i64 (shr_ .u64 (IntKind.wrap .u64 (wr (i3+j4))) 1))).bind λ(x7:yd)=>(p2 x7 target2).bind λr9=>if decide (r9 < 0) then (some (.inl (wr ((IntKind.wrap .i64 (shr_ .u64 (IntKind.wrap .u64 (wr (i3+j4))) 1))+1),j4))) else (some (.inl (i3,IntKind.wrap .i64 (shr_ .u64 (IntKind.wrap .u64 (wr (i3+j4))) 1))))) else (Option.map .inr (y2x x1 target2 p2 i3))
def y31 (x1:List yd) (target2:Bs) (p2:yd->Bs->Option Int):Option (Int×Bool):=
 iter (λ(s:Int×Int)=>y7p x1 target2 p2 s.1 s.2) (0,(x1.length:Int))
def z5l (p1:yd) (k2:Bs):Option Int:=
 (xf p1.Key k2).bind λr3=>some r3
def Yu (c1:zw) (key2:Bs):Option (yd×Bool):=
 (y31 c1.Plans key2 (λ(a0:yd) (a1:Bs)=>z5l a0 a1)).bind λr3=>if !r3.2 then (some ((yd.mk [] [] 0 0 [] 0 0 false),false)) else ((at? c1.Plans r3.1).bind λ(x6:yd)=>some (x6,true))
def y36 (s1:ya) (x2:zj) (p3:yd):Option (ya×Bool):=
 (z04 s1.State).bind λr4=>if r4 then (if ((decide (p3.Key=s1.Plan)) || p3.Asked) then (some (s1,false)) else (some ((ya.mk s1.State p3.Key x2.At s1.First),true))) else (if decide (s1.State=1) then (some (s1,false)) else (if p3.Asked then (some ((ya.mk 1 p3.Key x2.At (-1)),true)) else (some ((ya.mk 2 p3.Key x2.At x2.At),true))))
def z47 (v12:Bool):Option (Int×Bool):=
 some (4,v12)
def y33 (kind1:Int) (state2:Int):Option (Int×Bool):=
 if decide (kind1=2) then (some (2,decide (state2=1))) else (if decide (kind1=3) then (some (4,decide (state2=1))) else (if decide (kind1=4) then (some (3,decide (state2=2))) else (if decide (kind1=5) then (some (2,decide (state2=3))) else (if decide (state2=1) then (z47 true) else ((z04 state2).bind λr9=>z47 r9)))))
def z48 (s2:ya) (x3:zj) (r9:Int×Bool) (c13:Int):Option (ya×Bool):=
 some ((ya.mk r9.1 s2.Plan x3.At c13),true)
def z9u (c1:zw) (s2:ya) (x3:zj):Option (ya×Bool):=
 if decide (x3.Kind=1) then ((Yu c1 x3.Plan).bind λr5=>(y36 s2 x3 r5.1).bind λr7=>some (r7.1,r7.2)) else ((y33 x3.Kind s2.State).bind λr9=>if !r9.2 then (some (s2,false)) else (if ((decide (r9.1=2)) && (decide (s2.First < 0))) then (z48 s2 x3 r9 x3.At) else (z48 s2 x3 r9 s2.First)))
def z2u (what1:Bs) (calls2:Int) (cents3:Int) (c4:List qj) (c5:zx):Option ((List qj)):=
 if decide (cents3≠0) then (if c4.length+1<=1000000000 then (some (c4++[(qj.mk c5.app_ c5.product_ what1 calls2 cents3)])) else none) else some c4
def z2i (sum3:Int) (x7:yu) (to14:Int):Option (Int ⊕ (Int)):=
 some (.inl (wr (sum3+(wr ((max 0 (wr ((wr (to14-x7.From))+1)))*x7.Cents)))))
def z2h (p1:yd) (calls2:Int) (k4:Nat) (x7:yu) (sum3:Int):Option (Int ⊕ (Int)):=
 if decide (((k4:Int)+1) < (p1.Tiers.length:Int)) then ((p1.Tiers[(k4+1)]?).bind λ(x12:yu)=>z2i sum3 x7 (min (max 0 (wr (calls2-p1.Free))) (wr (x12.From-1)))) else (z2i sum3 x7 (max 0 (wr (calls2-p1.Free))))
def z4z (sum3:Int):Option Int:=
 if ((0:Int)<=sum3/\sum3<=9223372036854775807)/\(0:Int) < 1000 then (some (sum3 / 1000)) else none
def z5k (p1:yd) (calls2:Int):Option Int:=
 if p1.Tiers.length<=1000000000 then forL (λ(k:Nat) (x:yu) (s:Int)=>z2h p1 calls2 k x s) (λ(s:Int)=>z4z s) 0 p1.Tiers 0 else none
def z2l (l24:List qj):Option ((List qj)):=
 some l24
def z2m (s1:qu) (v3:zx) (v4:Int) (v5:Int) (r7:yd×Bool) (v11:Int):Option ((List qj)):=
 (z2u [98,97,115,101] 0 v11 ([]:List qj) v3).bind λr12=>(z5k r7.1 v5).bind λr14=>(z2u [99,97,108,108,115] v5 r14 r12 v3).bind λr16=>if decide (s1.last_.State=4) then (if ((0:Int)<=(wr (s1.last_.Since-(wr (v4*2592000000))))/\(wr (s1.last_.Since-(wr (v4*2592000000))))<=9223372036854775807)/\(0:Int) < 86400000 then (if ((0:Int)<=(wr (v11*(wr (29-((wr (s1.last_.Since-(wr (v4*2592000000)))) / 86400000)))))/\(wr (v11*(wr (29-((wr (s1.last_.Since-(wr (v4*2592000000)))) / 86400000)))))<=9223372036854775807)/\(0:Int) < 30 then (if -9223372036854775807<=((wr (v11*(wr (29-((wr (s1.last_.Since-(wr (v4*2592000000)))) / 86400000))))) / 30)/\((wr (v11*(wr (29-((wr (s1.last_.Since-(wr (v4*2592000000)))) / 86400000))))) / 30)<=9223372036854775807 then ((z2u [114,101,102,117,110,100] 0 (-((wr (v11*(wr (29-((wr (s1.last_.Since-(wr (v4*2592000000)))) / 86400000))))) / 30)) r16 v3).bind λr22=>z2l r22) else none) else none) else none) else (z2l r16)
def z06 (s1:qu) (v2:zw) (v3:zx) (v4:Int) (v5:Int):Option ((List qj)):=
 if decide (s1.on_.State=0) then (some []) else ((Yu v2 s1.on_.Plan).bind λr7=>if ((0:Int)<=s1.on_.First/\s1.on_.First<=9223372036854775807)/\(0:Int) < 2592000000 then (if decide (r7.1.Trial<=(wr (v4-(s1.on_.First / 2592000000)))) then (z2m s1 v3 v4 v5 r7 r7.1.Base) else (z2m s1 v3 v4 v5 r7 0)) else none)
def z6a (u1:(List (zz×Int))) (k2:zx) (month3:Int):Option Int:=
 if k2.app_.length<=1000000000/\k2.product_.length<=1000000000/\(-9223372036854775808<=month3/\month3<=9223372036854775807)/\(-9223372036854775808<=(0:Int)/\(0:Int)<=9223372036854775807) then (some ((lkG u1 (zz.mk k2.app_ k2.product_ month3 0)).getD 0)) else none
def z4w (k3:Nat) (x6:zz) (m2:(List (zz×Int))):Option ((List (zz×Int)) ⊕ ((List (zz×Int)))):=
 if x6.App.length<=1000000000/\x6.Product.length<=1000000000/\(-9223372036854775808<=x6.Month/\x6.Month<=9223372036854775807)/\(-9223372036854775808<=(0:Int)/\(0:Int)<=9223372036854775807) then (some (.inl (ptG m2 (zz.mk x6.App x6.Product x6.Month 0) x6.Calls))) else none
def y27 (m2:(List (zz×Int))):Option ((List (zz×Int))):=
 some m2
def Yg (l1:List zz):Option ((List (zz×Int))):=
 if l1.length<=1000000000 then forL (λ(k:Nat) (x:zz) (s:(List (zz×Int)))=>z4w k x s) (λ(s:(List (zz×Int)))=>y27 s) 0 l1 [] else none
def z80 (i12:Int) (v20:Bool):Option (Int×Bool):=
 some (i12,v20)
def y2y (x1:List zn) (target2:Bs) (p2:zn->Bs->Option Int) (i12:Int):Option (Int×Bool):=
 if decide (i12 < (x1.length:Int)) then ((at? x1 i12).bind λ(x15:zn)=>(p2 x15 target2).bind λr17=>z80 i12 (decide (r17=0))) else (z80 i12 false)
def y7q (x1:List zn) (target2:Bs) (p2:zn->Bs->Option Int) (i3:Int) (j4:Int):Option ((Int×Int) ⊕ (Int×Bool)):=
 if decide (i3 < j4) then ((at? x1 (IntKind.wrap .i64 (shr_ .u64 (IntKind.wrap .u64 (wr (i3+j4))) 1))).bind λ(x7:zn)=>(p2 x7 target2).bind λr9=>if decide (r9 < 0) then (some (.inl (wr ((IntKind.wrap .i64 (shr_ .u64 (IntKind.wrap .u64 (wr (i3+j4))) 1))+1),j4))) else (some (.inl (i3,IntKind.wrap .i64 (shr_ .u64 (IntKind.wrap .u64 (wr (i3+j4))) 1))))) else (Option.map .inr (y2y x1 target2 p2 i3))
def y32 (x1:List zn) (target2:Bs) (p2:zn->Bs->Option Int):Option (Int×Bool):=
 iter (λ(s:Int×Int)=>y7q x1 target2 p2 s.1 s.2) (0,(x1.length:Int))
def z5r (a1:zn) (k2:Bs):Option Int:=
 (xf a1.Key k2).bind λr3=>some r3
def z05 (l1:List zn) (key2:Bs):Option (Int×Bool):=
 (y32 l1 key2 (λ(a0:zn) (a1:Bs)=>z5r a0 a1)).bind λr3=>some (r3.1,r3.2)
def y4g (i2:Nat) (x5:UInt8):Option (Unit ⊕ (Bool)):=
 if !(((decide (97<=(x5.toNat:Int))) && (decide ((x5.toNat:Int)<=122))) || ((decide (0 < (i2:Int))) && ((((decide (48<=(x5.toNat:Int))) && (decide ((x5.toNat:Int)<=57))) || (decide ((x5.toNat:Int)=45))) || (decide ((x5.toNat:Int)=95))))) then (some (.inr false)) else (some (.inl ()))
def y9a (s1:Bs):Option Bool:=
 some ((decide (s1≠[])) && (decide ((s1.length:Int)<=40)))
def Wq (s1:Bs):Option Bool:=
 if s1.length<=1000000000 then forL (λ(k:Nat) (x:UInt8) (s:Unit)=>y4g k x) (λ(s:Unit)=>y9a s1) 0 s1 () else none
def y2c (r2:List Bs) (k4:Nat) (x7:Bs):Option (Unit ⊕ (Bool)):=
 (Wq x7).bind λr10=>if ((!r10) && (!((decide (x7=[42])) && (decide ((k4:Int)=(wr ((r2.length:Int)-1))))))) then (some (.inr false)) else (some (.inl ()))
def y6i (r2:List Bs):Option Bool:=
 some (decide ((r2.length:Int)<=10))
def z9k (s1:Bs):Option Bool:=
 (z02 s1 [58]).bind λr2=>if r2.length<=1000000000 then forL (λ(k:Nat) (x:Bs) (s:Unit)=>y2c r2 k x) (λ(s:Unit)=>y6i r2) 0 r2 () else none
def y2d (k3:Nat) (x6:Bs):Option (Unit ⊕ (Int)):=
 (z9k x6).bind λr9=>if !r9 then (some (.inr 3)) else (some (.inl ()))
def y6j:Option Int:=
 some 0
def z9l (l1:List Bs):Option Int:=
 if decide (50 < (l1.length:Int)) then some 2 else (if l1.length<=1000000000 then forL (λ(k:Nat) (x:Bs) (s:Unit)=>y2d k x) (λ(s:Unit)=>y6j) 0 l1 () else none)
def z2g (x6:yl) (v17:Bool):Option (Unit ⊕ (Int)):=
 if v17 then (some (.inr 7)) else ((z9l x6.Scopes).bind λr19=>if decide (r19≠0) then (some (.inr r19)) else (some (.inl ())))
def y29 (l1:List yl) (k3:Nat) (x6:yl):Option (Unit ⊕ (Int)):=
 (Wq x6.Key).bind λr9=>if !r9 then (some (.inr 5)) else (if decide (0 < (k3:Int)) then ((at? l1 ((k3:Int)-1)).bind λ(x14:yl)=>z2g x6 (Op.bytesLess x6.Key x14.Key || x6.Key == x14.Key)) else (z2g x6 false))
def y78:Option Int:=
 some 0
def z9s (l1:List yl):Option Int:=
 if decide (100 < (l1.length:Int)) then some 2 else (if l1.length<=1000000000 then forL (λ(k:Nat) (x:yl) (s:Unit)=>y29 l1 k x) (λ(s:Unit)=>y78) 0 l1 () else none)
def z8y (i12:Int) (v20:Bool):Option (Int×Bool):=
 some (i12,v20)
def y2w (x1:List yl) (target2:Bs) (p2:yl->Bs->Option Int) (i12:Int):Option (Int×Bool):=
 if decide (i12 < (x1.length:Int)) then ((at? x1 i12).bind λ(x15:yl)=>(p2 x15 target2).bind λr17=>z8y i12 (decide (r17=0))) else (z8y i12 false)
def y7o (x1:List yl) (target2:Bs) (p2:yl->Bs->Option Int) (i3:Int) (j4:Int):Option ((Int×Int) ⊕ (Int×Bool)):=
 if decide (i3 < j4) then ((at? x1 (IntKind.wrap .i64 (shr_ .u64 (IntKind.wrap .u64 (wr (i3+j4))) 1))).bind λ(x7:yl)=>(p2 x7 target2).bind λr9=>if decide (r9 < 0) then (some (.inl (wr ((IntKind.wrap .i64 (shr_ .u64 (IntKind.wrap .u64 (wr (i3+j4))) 1))+1),j4))) else (some (.inl (i3,IntKind.wrap .i64 (shr_ .u64 (IntKind.wrap .u64 (wr (i3+j4))) 1))))) else (Option.map .inr (y2w x1 target2 p2 i3))
def y30 (x1:List yl) (target2:Bs) (p2:yl->Bs->Option Int):Option (Int×Bool):=
 iter (λ(s:Int×Int)=>y7o x1 target2 p2 s.1 s.2) (0,(x1.length:Int))
def z5j (p1:yl) (k2:Bs):Option Int:=
 (xf p1.Key k2).bind λr3=>some r3
def z2s (c1:zw) (key2:Bs):Option (Int×Bool):=
 (y30 c1.Products key2 (λ(a0:yl) (a1:Bs)=>z5j a0 a1)).bind λr3=>some (r3.1,r3.2)
def xg (n1:Int) (low2:Int) (high3:Int):Option Bool:=
 some ((decide (n1 < low2)) || (decide (high3 < n1)))
def z4y (v12:Bool):Option Int:=
 if v12 then some 3 else some 0
def z4x (v30:Bool):Option (Unit ⊕ (Int)):=
 if v30 then (some (.inr 7)) else (some (.inl ()))
def z0x (l1:List yu) (k3:Nat) (x6:yu) (v23:Bool):Option (Unit ⊕ (Int)):=
 if v23 then (some (.inr 1)) else (if decide (0 < (k3:Int)) then ((at? l1 ((k3:Int)-1)).bind λ(x27:yu)=>z4x (decide (x6.From<=x27.From))) else (z4x false))
def z88 (l1:List yu) (k3:Nat) (x6:yu):Option (Unit ⊕ (Int)):=
 (xg x6.From 1 1000000000000).bind λr16=>if r16 then (z0x l1 k3 x6 true) else ((xg x6.Cents 0 1000000).bind λr20=>z0x l1 k3 x6 r20)
def y28 (l1:List yu):Option Int:=
 if decide (0 < (l1.length:Int)) then ((l1[0]?).bind λ(x9:yu)=>z4y (decide (x9.From≠1))) else (z4y false)
def z9r (l1:List yu):Option Int:=
 if decide (20 < (l1.length:Int)) then some 2 else (if l1.length<=1000000000 then forL (λ(k:Nat) (x:yu) (s:Unit)=>z88 l1 k x) (λ(s:Unit)=>y28 l1) 0 l1 () else none)
def z40 (v37:Bool):Option Int:=
 if v37 then some 1 else some 0
def z41 (x3:yd) (v25:Bool):Option Int:=
 if v25 then some 1 else ((z9r x3.Tiers).bind λr27=>if decide (r27≠0) then some r27 else ((xg x3.Limit (-1) 1000000000000).bind λr30=>if r30 then (z40 true) else ((xg x3.Trial 0 132).bind λr34=>z40 r34)))
def z2j (v1:zw) (x3:yd) (v13:Bool):Option Int:=
 if v13 then some 7 else ((z2s v1 x3.Product).bind λr15=>if !r15.2 then some 8 else ((xg x3.Base 0 1000000000000).bind λr18=>if r18 then (z41 x3 true) else ((xg x3.Free 0 1000000000000).bind λr22=>z41 x3 r22)))
def z9t (v1:zw) (v2:Int):Option Int:=
 (at? v1.Plans v2).bind λ(x3:yd)=>(Wq x3.Key).bind λr5=>if !r5 then some 5 else (if decide (0 < v2) then ((at? v1.Plans (wr (v2-1))).bind λ(x10:yd)=>z2j v1 x3 (Op.bytesLess x3.Key x10.Key || x3.Key == x10.Key)) else (z2j v1 x3 false))
def y3d (c1:zw) (k6:Nat) (x9:yd):Option (Unit ⊕ (Int)):=
 (z9t c1 (k6:Int)).bind λr12=>if decide (r12≠0) then (some (.inr r12)) else (some (.inl ()))
def y8c:Option Int:=
 some 0
def z2v (c1:zw):Option Int:=
 (z9s c1.Products).bind λr2=>if decide (r2≠0) then some r2 else (if decide (100 < (c1.Plans.length:Int)) then some 2 else (if c1.Plans.length<=1000000000 then forL (λ(k:Nat) (x:yd) (s:Unit)=>y3d c1 k x) (λ(s:Unit)=>y8c) 0 c1.Plans () else none))
def z5c (v23:Bool):Option (Unit ⊕ (Int)):=
 if v23 then (some (.inr 7)) else (some (.inl ()))
def z2o (l1:List zn) (k3:Nat) (x6:zn) (v16:Bool):Option (Unit ⊕ (Int)):=
 if v16 then (some (.inr 5)) else (if decide (0 < (k3:Int)) then ((at? l1 ((k3:Int)-1)).bind λ(x20:zn)=>z5c (Op.bytesLess x6.Key x20.Key || x6.Key == x20.Key)) else (z5c false))
def y3e (l1:List zn) (k3:Nat) (x6:zn):Option (Unit ⊕ (Int)):=
 (Wq x6.Key).bind λr9=>if !r9 then (z2o l1 k3 x6 true) else ((Wq x6.Owner).bind λr13=>z2o l1 k3 x6 (!r13))
def y8d:Option Int:=
 some 0
def z2w (l1:List zn):Option Int:=
 if decide (500 < (l1.length:Int)) then some 2 else (if l1.length<=1000000000 then forL (λ(k:Nat) (x:zn) (s:Unit)=>y3e l1 k x) (λ(s:Unit)=>y8d) 0 l1 () else none)
def z2x (n1:Int):Option Bool:=
 some ((decide (0<=n1)) && (decide (n1 < 345686400000)))
def y0q (x1:Int):Option Bool:=
 some (decide (x1≠x1))
def z28 (x1:Int) (y2:Int):Option Int:=
 (y0q x1).bind λr3=>(y0q y2).bind λr5=>if r3 then (if r5 then some 0 else (some (-1))) else (if r5 then some 1 else (if decide (x1 < y2) then (some (-1)) else (if decide (y2 < x1) then some 1 else some 0)))
def y1i (k2:Nat) (x5:Int):Option (Unit ⊕ (Int)):=
 if decide (x5≠0) then (some (.inr x5)) else (some (.inl ()))
def y1j:Option Int:=
 some 0
def Wt (vals1:List Int):Option Int:=
 if vals1.length<=1000000000 then forL (λ(k:Nat) (x:Int) (s:Unit)=>y1i k x) (λ(s:Unit)=>y1j) 0 vals1 () else none
def y35 (a1:zj) (b2:zj):Option Int:=
 (z28 a1.At b2.At).bind λr3=>(xf a1.App b2.App).bind λr5=>(xf a1.Product b2.Product).bind λr7=>(Wt [r3,r5,r7]).bind λr9=>some r9
def z49 (v32:Bool):Option Int:=
 if v32 then some 7 else some 0
def z2k (v3:List zj) (v4:Int) (x5:zj):Option Int:=
 if decide (0 < v4) then ((at? v3 (wr (v4-1))).bind λ(x27:zj)=>(y35 x27 x5).bind λr29=>z49 (decide (0<=r29))) else (z49 false)
def z9v (v1:zw) (v2:List zn) (v3:List zj) (v4:Int):Option Int:=
 (at? v3 v4).bind λ(x5:zj)=>(z2x x5.At).bind λr7=>if !r7 then some 1 else ((z05 v2 x5.App).bind λr10=>if !r10.2 then some 8 else ((z2s v1 x5.Product).bind λr13=>if !r13.2 then some 8 else ((xg x5.Kind 1 6).bind λr16=>if r16 then some 4 else (if ((decide (x5.Plan≠[])) && (decide (x5.Kind≠1))) then some 3 else (if decide (x5.Kind=1) then ((Yu v1 x5.Plan).bind λr21=>if !r21.2 then some 8 else (if decide (r21.1.Product≠x5.Product) then some 16 else (z2k v3 v4 x5))) else (z2k v3 v4 x5))))))
def y3c (c1:zw) (apps2:List zn) (l3:List zj) (k11:Nat) (x14:zj):Option (Unit ⊕ (Int)):=
 (z9v c1 apps2 l3 (k11:Int)).bind λr17=>if decide (r17≠0) then (some (.inr r17)) else (some (.inl ()))
def y8b:Option Int:=
 some 0
def z90 (c1:zw) (apps2:List zn) (l3:List zj):Option Int:=
 (z2v c1).bind λr4=>if decide (r4≠0) then some r4 else ((z2w apps2).bind λr7=>if decide (r7≠0) then some r7 else (if decide (1000 < (l3.length:Int)) then some 2 else (if l3.length<=1000000000 then forL (λ(k:Nat) (x:zj) (s:Unit)=>y3c c1 apps2 l3 k x) (λ(s:Unit)=>y8b) 0 l3 () else none)))
def y34 (a1:zz) (b2:zz):Option Int:=
 (z28 a1.Month b2.Month).bind λr3=>(xf a1.App b2.App).bind λr5=>(xf a1.Product b2.Product).bind λr7=>(Wt [r3,r5,r7]).bind λr9=>some r9
def z5a (v38:Bool):Option (Unit ⊕ (Int)):=
 if v38 then (some (.inr 7)) else (some (.inl ()))
def z2n (v3:List zz) (k11:Nat) (x14:zz) (v29:Bool):Option (Unit ⊕ (Int)):=
 if v29 then (some (.inr 1)) else (if decide (0 < (k11:Int)) then ((at? v3 ((k11:Int)-1)).bind λ(x33:zz)=>(y34 x33 x14).bind λr35=>z5a (decide (0<=r35))) else (z5a false))
def z89 (v1:zw) (v2:List zn) (v3:List zz) (k11:Nat) (x14:zz):Option (Unit ⊕ (Int)):=
 (z05 v2 x14.App).bind λr17=>(z2s v1 x14.Product).bind λr19=>if ((!r17.2) || (!r19.2)) then (some (.inr 8)) else ((xg x14.Month 0 132).bind λr22=>if r22 then (z2n v3 k11 x14 true) else ((xg x14.Calls 0 1000000000000).bind λr26=>z2n v3 k11 x14 r26))
def y79:Option Int:=
 some 0
def z9z (v1:zw) (v2:List zn) (v3:List zz):Option Int:=
 (z2v v1).bind λr4=>if decide (r4≠0) then some r4 else ((z2w v2).bind λr7=>if decide (r7≠0) then some r7 else (if decide (3000 < (v3.length:Int)) then some 2 else (if v3.length<=1000000000 then forL (λ(k:Nat) (x:zz) (s:Unit)=>z89 v1 v2 v3 k x) (λ(s:Unit)=>y79) 0 v3 () else none)))
def z9q (c1:zw) (apps2:List zn) (l3:List zj) (uses4:List zz):Option Int:=
 (z90 c1 apps2 l3).bind λr5=>if decide (r5≠0) then some r5 else ((z9z c1 apps2 uses4).bind λr8=>some r8)
def z07  : Option ya:=
 some (ya.mk 0 [] 0 (-1))
def y7g (p1:yd->Option Bool) (k2:Nat) (x5:yd):Option (Unit ⊕ (Int)):=
 (p1 x5).bind λr8=>if r8 then (some (.inr (k2:Int))) else (some (.inl ()))
def y7h:Option Int:=
 some (-1)
def y3y (s1:List yd) (p1:yd->Option Bool):Option Int:=
 if s1.length<=1000000000 then forL (λ(k:Nat) (x:yd) (s:Unit)=>y7g p1 k x) (λ(s:Unit)=>y7h) 0 s1 () else none
def z52 (p1:yd) (c2:Bs):Option Bool:=
 some (decide (p1.Key=c2))
def xr (c1:zw) (key2:Bs):Option Int:=
 (y3y c1.Plans (λ(a0:yd)=>z52 a0 key2)).bind λr3=>some r3
def kx (n1:Int) (low2:Int) (high3:Int):Option Bool:=
 some ((decide (low2<=n1)) && (decide (n1<=high3)))
def Zj (v3:zj) (c38:Int) (c39:Bs) (c40:Int):Option (ya×Bool):=
 some ((ya.mk c38 c39 v3.At c40),true)
def z3h (v2:ya) (v3:zj) (v25:Bool):Option (ya×Bool):=
 if v25 then (some (v2,false)) else (Zj v3 v2.State v3.Plan v2.First)
def z3g (v2:ya) (v3:zj) (v36:Bool):Option (ya×Bool):=
 if v36 then (Zj v3 4 v2.Plan v2.First) else (some (v2,false))
def z3i (v1:zw) (v2:ya) (v3:zj) (v9:Bool):Option (ya×Bool):=
 if v9 then (some (v2,false)) else (if ((decide (v3.Kind=1)) && ((decide (v2.State=0)) || (decide (v2.State=4)))) then ((xr v1 v3.Plan).bind λr12=>(at? v1.Plans r12).bind λ(x14:yd)=>if !x14.Asked then (Zj v3 2 v3.Plan v3.At) else (Zj v3 1 v3.Plan (-1))) else (if ((decide (v3.Kind=1)) && ((decide (v2.State=2)) || (decide (v2.State=3)))) then (if decide (v3.Plan=v2.Plan) then (z3h v2 v3 true) else ((xr v1 v3.Plan).bind λr20=>(at? v1.Plans r20).bind λ(x22:yd)=>z3h v2 v3 x22.Asked)) else (if ((decide (v3.Kind=2)) && (decide (v2.State=1))) then (Zj v3 2 v2.Plan v3.At) else (if ((decide (v3.Kind=3)) && (decide (v2.State=1))) then (Zj v3 4 v2.Plan v2.First) else (if ((decide (v3.Kind=4)) && (decide (v2.State=2))) then (Zj v3 3 v2.Plan v2.First) else (if ((decide (v3.Kind=5)) && (decide (v2.State=3))) then (Zj v3 2 v2.Plan v2.First) else (if decide (v3.Kind=6) then ((kx v2.State 1 3).bind λr33=>z3g v2 v3 r33) else (z3g v2 v3 false))))))))
def z08 (v1:zw) (v2:ya) (v3:zj):Option (ya×Bool):=
 if decide (v3.Kind=1) then ((xr v1 v3.Plan).bind λr6=>z3i v1 v2 v3 (decide (r6 < 0))) else (z3i v1 v2 v3 false)
def z3m (out23:List ya) (refused24:List Int):Option (((List ya)×(List Int)) ⊕ ((List ya)×(List Int))):=
 some (.inl (out23,refused24))
def z3l (c1:zw) (app3:Bs) (product4:Bs) (k9:Nat) (x12:zj) (l7:List ya) (l8:List Int):Option (((List ya)×(List Int)) ⊕ ((List ya)×(List Int))):=
 if ((decide (x12.App≠app3)) || (decide (x12.Product≠product4))) then (z3m l7 l8) else ((at? l7 (wr ((l7.length:Int)-1))).bind λ(x16:ya)=>(z08 c1 x16 x12).bind λr18=>if r18.2 then (if l7.length+1<=1000000000 then (z3m (l7++[r18.1]) l8) else none) else (if l8.length+1<=1000000000 then (z3m l7 (l8++[(k9:Int)])) else none))
def z6q (l7:List ya) (l8:List Int):Option ((List ya)×(List Int)):=
 some (l7,l8)
def z5z (c1:zw) (l2:List zj) (app3:Bs) (product4:Bs):Option ((List ya)×(List Int)):=
 (z07 ).bind λr5=>if l2.length<=1000000000 then forL (λ(k:Nat) (x:zj) (s:(List ya)×(List Int))=>z3l c1 app3 product4 k x s.1 s.2) (λ(s:(List ya)×(List Int))=>z6q s.1 s.2) 0 l2 (([r5]:(List ya)),[]) else none
def y07 (v5:Int) (k10:Nat) (x11:ya):Option (Unit ⊕ (ya)):=
 if decide (x11.Since<=v5) then (some (.inr x11)) else (some (.inl ()))
def y08:Option ya:=
 (z07 ).bind λr15=>some r15
def z95 (c1:zw) (l2:List zj) (app3:Bs) (product4:Bs) (v5:Int):Option ya:=
 (z5z c1 l2 app3 product4).bind λr6=>if r6.1.length<=1000000000 then back (λ(k:Nat) (x:ya) (s:Unit)=>y07 v5 k x) (λ(s:Unit)=>y08) r6.1 r6.1.length () else none
def y39 (s1:ya):Option Bool:=
 some ((decide (s1.State=2)) || (decide (s1.State=3)))
def z6m (v5:Int) (r8:ya) (x13:ya) (v19:Int):Option (Unit ⊕ (ya×ya×Bool)):=
 (y39 x13).bind λr20=>if (((r20 && (decide (x13.Since < (wr ((wr (v5+1))*2592000000))))) && (decide ((wr (v5*2592000000)) < v19))) && (decide (x13.Since < v19))) then (some (.inr (x13,r8,true))) else (some (.inl ()))
def z6l (v5:Int) (r6:((List ya)×(List Int))) (r8:ya) (k12:Nat) (x13:ya):Option (Unit ⊕ (ya×ya×Bool)):=
 if decide (((k12:Int)+1) < (r6.1.length:Int)) then ((r6.1[(k12+1)]?).bind λ(x17:ya)=>z6m v5 r8 x13 x17.Since) else (z6m v5 r8 x13 345686400000)
def y4m (r8:ya):Option (ya×ya×Bool):=
 some ((ya.mk 0 [] 0 0),r8,false)
def z5v (v1:zw) (v2:List zj) (v3:Bs) (v4:Bs) (v5:Int):Option (ya×ya×Bool):=
 (z5z v1 v2 v3 v4).bind λr6=>(z95 v1 v2 v3 v4 (wr ((wr ((wr (v5+1))*2592000000))-1))).bind λr8=>if r6.1.length<=1000000000 then back (λ(k:Nat) (x:ya) (s:Unit)=>z6l v5 r6 r8 k x) (λ(s:Unit)=>y4m r8) r6.1 r6.1.length () else none
def z6n (app2:Bs) (product3:Bs) (month4:Int) (k5:Nat) (x8:zz):Option (Unit ⊕ (Int)):=
 if (((decide (x8.App=app2)) && (decide (x8.Product=product3))) && (decide (x8.Month=month4))) then (some (.inr x8.Calls)) else (some (.inl ()))
def y4o:Option Int:=
 some 0
def z5x (l1:List zz) (app2:Bs) (product3:Bs) (month4:Int):Option Int:=
 if l1.length<=1000000000 then forL (λ(k:Nat) (x:zz) (s:Unit)=>z6n app2 product3 month4 k x) (λ(s:Unit)=>y4o) 0 l1 () else none
def z3n (k7:Nat) (x8:yu) (c3:Int) (c4:Int):Option ((Int×Int) ⊕ (Int)):=
 if decide (x8.From<=c3) then (some (.inl (wr (x8.From-1),wr (c4+(wr ((wr ((wr (c3-x8.From))+1))*x8.Cents)))))) else (some (.inl (c3,c4)))
def z6r (c3:Int) (c4:Int):Option Int:=
 if ((0:Int)<=c4/\c4<=9223372036854775807)/\(0:Int) < 1000 then (some (c4 / 1000)) else none
def z98 (p1:yd) (calls2:Int):Option Int:=
 if p1.Tiers.length<=1000000000 then back (λ(k:Nat) (x:yu) (s:Int×Int)=>z3n k x s.1 s.2) (λ(s:Int×Int)=>z6r s.1 s.2) p1.Tiers p1.Tiers.length ((max 0 (wr (calls2-p1.Free))),0) else none
def z3c (v35:List qj):Option ((List qj)):=
 some v35
def z3d (v4:Bs) (v5:Bs) (v6:Int) (r7:ya×ya×Bool) (x12:yd) (v18:Bool) (v28:List qj):Option ((List qj)):=
 if ((decide (r7.2.1.State=4)) && v18) then (if ((0:Int)<=(wr (r7.2.1.Since-(wr (v6*2592000000))))/\(wr (r7.2.1.Since-(wr (v6*2592000000))))<=9223372036854775807)/\(0:Int) < 86400000 then (if ((0:Int)<=(wr (x12.Base*(wr (29-((wr (r7.2.1.Since-(wr (v6*2592000000)))) / 86400000)))))/\(wr (x12.Base*(wr (29-((wr (r7.2.1.Since-(wr (v6*2592000000)))) / 86400000)))))<=9223372036854775807)/\(0:Int) < 30 then (if decide (((wr (x12.Base*(wr (29-((wr (r7.2.1.Since-(wr (v6*2592000000)))) / 86400000))))) / 30)≠0) then (if -9223372036854775807<=((wr (x12.Base*(wr (29-((wr (r7.2.1.Since-(wr (v6*2592000000)))) / 86400000))))) / 30)/\((wr (x12.Base*(wr (29-((wr (r7.2.1.Since-(wr (v6*2592000000)))) / 86400000))))) / 30)<=9223372036854775807 then (if v28.length+1<=1000000000 then (z3c (v28++([(qj.mk v4 v5 [114,101,102,117,110,100] 0 (-((wr (x12.Base*(wr (29-((wr (r7.2.1.Since-(wr (v6*2592000000)))) / 86400000))))) / 30)))]))) else none) else none) else (z3c v28)) else none) else none) else (z3c v28)
def z3e (v3:List zz) (v4:Bs) (v5:Bs) (v6:Int) (r7:ya×ya×Bool) (x12:yd) (v18:Bool) (v21:List qj):Option ((List qj)):=
 (z5x v3 v4 v5 v6).bind λr22=>(z98 x12 r22).bind λr24=>if decide (r24≠0) then (if v21.length+1<=1000000000 then (z3d v4 v5 v6 r7 x12 v18 (v21++([(qj.mk v4 v5 [99,97,108,108,115] r22 r24)]))) else none) else (z3d v4 v5 v6 r7 x12 v18 v21)
def z3f (v3:List zz) (v4:Bs) (v5:Bs) (v6:Int) (r7:ya×ya×Bool) (x12:yd) (v18:Bool):Option ((List qj)):=
 if v18 then (if ([]:List qj).length+1<=1000000000 then (z3e v3 v4 v5 v6 r7 x12 v18 (([]:List qj)++([(qj.mk v4 v5 [98,97,115,101] 0 x12.Base)]))) else none) else (z3e v3 v4 v5 v6 r7 x12 v18 ([]:List qj))
def z2y (v1:zw) (v2:List zj) (v3:List zz) (v4:Bs) (v5:Bs) (v6:Int):Option ((List qj)):=
 (z5v v1 v2 v4 v5 v6).bind λr7=>if !r7.2.2 then (some []) else ((xr v1 r7.1.Plan).bind λr10=>(at? v1.Plans r10).bind λ(x12:yd)=>if decide (x12.Base≠0) then (if ((0:Int)<=r7.1.First/\r7.1.First<=9223372036854775807)/\(0:Int) < 2592000000 then (z3f v3 v4 v5 v6 r7 x12 (decide (x12.Trial<=(wr (v6-(r7.1.First / 2592000000)))))) else none) else (z3f v3 v4 v5 v6 r7 x12 false))
def y4n (some2:Bs) (k3:Nat) (x6:UInt8):Option (Unit ⊕ (Bool)):=
 (y8w some2 (x6.toNat:Int)).bind λr9=>if decide (r9 < 0) then (some (.inr false)) else (some (.inl ()))
def y9v:Option Bool:=
 some true
def z5w (s1:Bs) (some2:Bs):Option Bool:=
 if s1.length<=1000000000 then forL (λ(k:Nat) (x:UInt8) (s:Unit)=>y4n some2 k x) (λ(s:Unit)=>y9v) 0 s1 () else none
def z3p (v16:Bool):Option Bool:=
 some v16
def Wr (s1:Bs):Option Bool:=
 (kx (s1.length:Int) 1 40).bind λr2=>if r2 then ((sub? s1 0 1).bind λ(l6:Bs)=>(z5w l6 [97,98,99,100,101,102,103,104,105,106,107,108,109,110,111,112,113,114,115,116,117,118,119,120,121,122]).bind λr8=>if r8 then ((z5w s1 [97,98,99,100,101,102,103,104,105,106,107,108,109,110,111,112,113,114,115,116,117,118,119,120,121,122,48,49,50,51,52,53,54,55,56,57,45,95]).bind λr12=>z3p r12) else (z3p false)) else (z3p false)
def y7e (p1:yl->Option Bool) (k2:Nat) (x5:yl):Option (Unit ⊕ (Int)):=
 (p1 x5).bind λr8=>if r8 then (some (.inr (k2:Int))) else (some (.inl ()))
def y7f:Option Int:=
 some (-1)
def y3x (s1:List yl) (p1:yl->Option Bool):Option Int:=
 if s1.length<=1000000000 then forL (λ(k:Nat) (x:yl) (s:Unit)=>y7e p1 k x) (λ(s:Unit)=>y7f) 0 s1 () else none
def z50 (p1:yl) (c2:Bs):Option Bool:=
 some (decide (p1.Key=c2))
def z2z (c1:zw) (key2:Bs):Option Int:=
 (y3x c1.Products (λ(a0:yl)=>z50 a0 key2)).bind λr3=>some r3
def z6k (v34:Bool):Option Int:=
 if v34 then some 1 else some 0
def z3b (v2:yd) (v25:Bool):Option Int:=
 if v25 then some 3 else ((kx v2.Limit (-1) 1000000000000).bind λr27=>if !r27 then (z6k true) else ((kx v2.Trial 0 132).bind λr31=>z6k (!r31)))
def y04 (v52:Bool):Option (Unit ⊕ (Int)):=
 if v52 then (some (.inr 7)) else (some (.inl ()))
def z6j (v2:yd) (k16:Nat) (x19:yu) (v45:Bool):Option (Unit ⊕ (Int)):=
 if v45 then (some (.inr 1)) else (if decide (0 < (k16:Int)) then ((at? v2.Tiers ((k16:Int)-1)).bind λ(x49:yu)=>y04 (decide (x19.From<=x49.From))) else (y04 false))
def y03 (v2:yd) (k16:Nat) (x19:yu):Option (Unit ⊕ (Int)):=
 (kx x19.From 1 1000000000000).bind λr38=>if !r38 then (z6j v2 k16 x19 true) else ((kx x19.Cents 0 1000000).bind λr42=>z6j v2 k16 x19 (!r42))
def y05 (v2:yd):Option Int:=
 if decide (0 < (v2.Tiers.length:Int)) then ((v2.Tiers[0]?).bind λ(x22:yu)=>z3b v2 (decide (x22.From≠1))) else (z3b v2 false)
def z1c (v2:yd) (v13:Bool):Option Int:=
 if v13 then some 1 else (if decide (20 < (v2.Tiers.length:Int)) then some 2 else (if v2.Tiers.length<=1000000000 then forL (λ(k:Nat) (x:yu) (s:Unit)=>y03 v2 k x) (λ(s:Unit)=>y05 v2) 0 v2.Tiers () else none))
def z93 (v1:zw) (v2:yd):Option Int:=
 (z2z v1 v2.Product).bind λr3=>if decide (r3 < 0) then some 8 else ((kx v2.Base 0 1000000000000).bind λr6=>if !r6 then (z1c v2 true) else ((kx v2.Free 0 1000000000000).bind λr10=>z1c v2 (!r10)))
def y4l (r2:List Bs) (k4:Nat) (x7:Bs):Option (Unit ⊕ (Bool)):=
 (Wr x7).bind λr10=>if ((!r10) && ((decide (x7≠[42])) || (decide ((k4:Int) < (wr ((r2.length:Int)-1)))))) then (some (.inr false)) else (some (.inl ()))
def y9u (r2:List Bs):Option Bool:=
 some (decide ((r2.length:Int)<=10))
def z92 (s1:Bs):Option Bool:=
 (z02 s1 [58]).bind λr2=>if r2.length<=1000000000 then forL (λ(k:Nat) (x:Bs) (s:Unit)=>y4l r2 k x) (λ(s:Unit)=>y9u r2) 0 r2 () else none
def y4r (k3:Nat) (x6:Bs):Option (Unit ⊕ (Int)):=
 (z92 x6).bind λr9=>if !r9 then (some (.inr 3)) else (some (.inl ()))
def y9x:Option Int:=
 some 0
def z97 (l1:List Bs):Option Int:=
 if decide (50 < (l1.length:Int)) then some 2 else (if l1.length<=1000000000 then forL (λ(k:Nat) (x:Bs) (s:Unit)=>y4r k x) (λ(s:Unit)=>y9x) 0 l1 () else none)
def y4u (v1:zw) (k10:Nat) (x13:yd) (v9:Bs):Option (Bs ⊕ (Int)):=
 (Wr x13.Key).bind λr16=>if !r16 then (some (.inr 5)) else (if (Op.bytesLess x13.Key v9 || x13.Key == v9) then (some (.inr 7)) else ((z93 v1 x13).bind λr20=>if decide (r20≠0) then (some (.inr r20)) else (some (.inl x13.Key))))
def y4w (v9:Bs):Option Int:=
 some 0
def y4v (k4:Nat) (x7:yl) (v3:Bs):Option (Bs ⊕ (Int)):=
 (Wr x7.Key).bind λr25=>if !r25 then (some (.inr 5)) else (if (Op.bytesLess x7.Key v3 || x7.Key == v3) then (some (.inr 7)) else ((z97 x7.Scopes).bind λr29=>if decide (r29≠0) then (some (.inr r29)) else (some (.inl x7.Key))))
def z62 (v1:zw) (v3:Bs):Option Int:=
 if decide (100 < (v1.Plans.length:Int)) then some 2 else (if v1.Plans.length<=1000000000 then forL (λ(k:Nat) (x:yd) (s:Bs)=>y4u v1 k x s) (λ(s:Bs)=>y4w s) 0 v1.Plans [] else none)
def z55 (v1:zw):Option Int:=
 if decide (100 < (v1.Products.length:Int)) then some 2 else (if v1.Products.length<=1000000000 then forL (λ(k:Nat) (x:yl) (s:Bs)=>y4v k x s) (λ(s:Bs)=>z62 v1 s) 0 v1.Products [] else none)
def z63 (last3:Bs) (x7:zn) (v17:Bool):Option (Bs ⊕ (Int)):=
 if v17 then (some (.inr 5)) else (if (Op.bytesLess x7.Key last3 || x7.Key == last3) then (some (.inr 7)) else (some (.inl x7.Key)))
def y4x (k4:Nat) (x7:zn) (last3:Bs):Option (Bs ⊕ (Int)):=
 (Wr x7.Key).bind λr10=>if !r10 then (z63 last3 x7 true) else ((Wr x7.Owner).bind λr14=>z63 last3 x7 (!r14))
def y4y (last3:Bs):Option Int:=
 some 0
def z56 (l1:List zn):Option Int:=
 if decide (500 < (l1.length:Int)) then some 2 else (if l1.length<=1000000000 then forL (λ(k:Nat) (x:zn) (s:Bs)=>y4x k x s) (λ(s:Bs)=>y4y s) 0 l1 [] else none)
def z5y (c1:zw) (apps2:List zn):Option Int:=
 (z55 c1).bind λr3=>if decide (r3≠0) then some r3 else ((z56 apps2).bind λr6=>some r6)
def y7i (p1:zn->Option Bool) (k2:Nat) (x5:zn):Option (Unit ⊕ (Int)):=
 (p1 x5).bind λr8=>if r8 then (some (.inr (k2:Int))) else (some (.inl ()))
def y7j:Option Int:=
 some (-1)
def z9o (s1:List zn) (p1:zn->Option Bool):Option Int:=
 if s1.length<=1000000000 then forL (λ(k:Nat) (x:zn) (s:Unit)=>y7i p1 k x) (λ(s:Unit)=>y7j) 0 s1 () else none
def z57 (a1:zn) (c2:Bs):Option Bool:=
 some (decide (a1.Key=c2))
def z58 (l1:List zn) (key2:Bs):Option Int:=
 (z9o l1 (λ(a0:zn)=>z57 a0 key2)).bind λr3=>some r3
def z5u (n1:Int):Option Int:=
 if decide (n1 < 0) then (some (-1)) else (if decide (0 < n1) then some 1 else some 0)
def y0p (x1:Bs):Option Bool:=
 some (decide (x1≠x1))
def y0r (x1:Bs) (y2:Bs):Option Int:=
 (y0p x1).bind λr3=>(y0p y2).bind λr5=>if r3 then (if r5 then some 0 else (some (-1))) else (if r5 then some 1 else (if Op.bytesLess x1 y2 then (some (-1)) else (if (!(Op.bytesLess x1 y2 || x1 == y2)) then some 1 else some 0)))
def y2s (s2:List Bs) (k3:Nat) (x6:Bs):Option (Unit ⊕ (Int)):=
 if decide ((s2.length:Int)<=(k3:Int)) then (some (.inr 1)) else ((s2[k3]?).bind λ(x11:Bs)=>(y0r x6 x11).bind λr13=>if decide (r13≠0) then (some (.inr r13)) else (some (.inl ())))
def y2t (s1:List Bs) (s2:List Bs):Option Int:=
 if decide ((s1.length:Int) < (s2.length:Int)) then (some (-1)) else some 0
def z2r (s1:List Bs) (s2:List Bs):Option Int:=
 if s1.length<=1000000000 then forL (λ(k:Nat) (x:Bs) (s:Unit)=>y2s s2 k x) (λ(s:Unit)=>y2t s1 s2) 0 s1 () else none
def y4a (a1:zz) (b2:zz):Option Int:=
 if decide (a1.Month≠b2.Month) then ((z5u (wr (a1.Month-b2.Month))).bind λr4=>some r4) else ((z2r [a1.App,a1.Product] [b2.App,b2.Product]).bind λr6=>some r6)
def z6o (v39:Bool):Option (Unit ⊕ (Int)):=
 if v39 then (some (.inr 7)) else (some (.inl ()))
def z3j (l3:List zz) (k8:Nat) (x11:zz) (v30:Bool):Option (Unit ⊕ (Int)):=
 if v30 then (some (.inr 1)) else (if decide (0 < (k8:Int)) then ((at? l3 ((k8:Int)-1)).bind λ(x34:zz)=>(y4a x34 x11).bind λr36=>z6o (decide (0<=r36))) else (z6o false))
def z6p (l3:List zz) (k8:Nat) (x11:zz) (v21:Bool):Option (Unit ⊕ (Int)):=
 if v21 then (some (.inr 8)) else ((kx x11.Month 0 132).bind λr23=>if !r23 then (z3j l3 k8 x11 true) else ((kx x11.Calls 0 1000000000000).bind λr27=>z3j l3 k8 x11 (!r27)))
def y06 (c1:zw) (apps2:List zn) (l3:List zz) (k8:Nat) (x11:zz):Option (Unit ⊕ (Int)):=
 (z58 apps2 x11.App).bind λr14=>if decide (r14 < 0) then (z6p l3 k8 x11 true) else ((z2z c1 x11.Product).bind λr18=>z6p l3 k8 x11 (decide (r18 < 0)))
def y9w:Option Int:=
 some 0
def z94 (c1:zw) (apps2:List zn) (l3:List zz):Option Int:=
 (z5y c1 apps2).bind λr4=>if decide (r4≠0) then some r4 else (if decide (3000 < (l3.length:Int)) then some 2 else (if l3.length<=1000000000 then forL (λ(k:Nat) (x:zz) (s:Unit)=>y06 c1 apps2 l3 k x) (λ(s:Unit)=>y9w) 0 l3 () else none))
def z9h (x6:Int) (n7:Int):Option Int:=
 (at? [0,1,2,2,3,3,3,3,4,4,4,4,4,4,4,4,5,5,5,5,5,5,5,5,5,5,5,5,5,5,5,5,6,6,6,6,6,6,6,6,6,6,6,6,6,6,6,6,6,6,6,6,6,6,6,6,6,6,6,6,6,6,6,6,7,7,7,7,7,7,7,7,7,7,7,7,7,7,7,7,7,7,7,7,7,7,7,7,7,7,7,7,7,7,7,7,7,7,7,7,7,7,7,7,7,7,7,7,7,7,7,7,7,7,7,7,7,7,7,7,7,7,7,7,7,7,7,7,8,8,8,8,8,8,8,8,8,8,8,8,8,8,8,8,8,8,8,8,8,8,8,8,8,8,8,8,8,8,8,8,8,8,8,8,8,8,8,8,8,8,8,8,8,8,8,8,8,8,8,8,8,8,8,8,8,8,8,8,8,8,8,8,8,8,8,8,8,8,8,8,8,8,8,8,8,8,8,8,8,8,8,8,8,8,8,8,8,8,8,8,8,8,8,8,8,8,8,8,8,8,8,8,8,8,8,8,8,8,8,8,8,8,8,8,8,8,8,8,8,8,8,8,8,8,8,8] (IntKind.wrap .u8 x6)).bind λ(x8:UInt8)=>some (wr (n7+(IntKind.wrap .i64 (x8.toNat:Int))))
def z9i (x3:Int) (n4:Int):Option Int:=
 if decide (256<=x3) then (z9h (shr_ .u32 x3 8) (wr (n4+8))) else (z9h x3 n4)
def y82 (x1:Int):Option Int:=
 if decide (65536<=x1) then (z9i (shr_ .u32 x1 16) 16) else (z9i x1 0)
def z9e (x9:Int) (n10:Int):Option Int:=
 (at? [0,1,2,2,3,3,3,3,4,4,4,4,4,4,4,4,5,5,5,5,5,5,5,5,5,5,5,5,5,5,5,5,6,6,6,6,6,6,6,6,6,6,6,6,6,6,6,6,6,6,6,6,6,6,6,6,6,6,6,6,6,6,6,6,7,7,7,7,7,7,7,7,7,7,7,7,7,7,7,7,7,7,7,7,7,7,7,7,7,7,7,7,7,7,7,7,7,7,7,7,7,7,7,7,7,7,7,7,7,7,7,7,7,7,7,7,7,7,7,7,7,7,7,7,7,7,7,7,8,8,8,8,8,8,8,8,8,8,8,8,8,8,8,8,8,8,8,8,8,8,8,8,8,8,8,8,8,8,8,8,8,8,8,8,8,8,8,8,8,8,8,8,8,8,8,8,8,8,8,8,8,8,8,8,8,8,8,8,8,8,8,8,8,8,8,8,8,8,8,8,8,8,8,8,8,8,8,8,8,8,8,8,8,8,8,8,8,8,8,8,8,8,8,8,8,8,8,8,8,8,8,8,8,8,8,8,8,8,8,8,8,8,8,8,8,8,8,8,8,8,8,8,8,8,8,8] (IntKind.wrap .u8 x9)).bind λ(x11:UInt8)=>some (wr (n10+(IntKind.wrap .i64 (x11.toNat:Int))))
def z9f (x6:Int) (n7:Int):Option Int:=
 if decide (256<=x6) then (z9e (shr_ .u64 x6 8) (wr (n7+8))) else (z9e x6 n7)
def z9g (x3:Int) (n4:Int):Option Int:=
 if decide (65536<=x3) then (z9f (shr_ .u64 x3 16) (wr (n4+16))) else (z9f x3 n4)
def y81 (x1:Int):Option Int:=
 if decide (4294967296<=x1) then (z9g (shr_ .u64 x1 32) 32) else (z9g x1 0)
def z5t (x1:Int):Option Int:=
 if false then ((y82 (IntKind.wrap .u32 x1)).bind λr3=>some r3) else ((y81 x1).bind λr5=>some r5)
def y2p (i4:Int) (data28:List zx):Option ((Int×(List zx)) ⊕ ((List zx))):=
 some (.inl (wr (i4+1),data28))
def z8u (i4:Int) (j8:Int) (l9:List zx) (v20:Bool):Option ((Int×(List zx)) ⊕ ((Int×(List zx)) ⊕ ((List zx)))):=
 if v20 then ((at? l9 (wr (j8-1))).bind λ(x22:zx)=>(at? l9 j8).bind λ(x24:zx)=>(at? (l9.set j8.toNat x22) (wr (j8-1))).bind λ(x26:zx)=>some (.inl (wr (j8-1),((l9.set j8.toNat x22).set ((wr (j8-1)).toNat) x24)))) else (Option.map .inr (y2p i4 l9))
def y66 (a2:Int) (p3:zx->zx->Option Int) (i4:Int) (j8:Int) (l9:List zx):Option ((Int×(List zx)) ⊕ ((Int×(List zx)) ⊕ ((List zx)))):=
 if decide (a2 < j8) then ((at? l9 j8).bind λ(x13:zx)=>(at? l9 (wr (j8-1))).bind λ(x15:zx)=>(p3 x13 x15).bind λr17=>z8u i4 j8 l9 (decide (r17 < 0))) else (z8u i4 j8 l9 false)
def y67 (a2:Int) (b3:Int) (p3:zx->zx->Option Int) (i4:Int) (l5:List zx):Option ((Int×(List zx)) ⊕ ((List zx))):=
 if decide (i4 < b3) then (iter (λ(s:Int×(List zx))=>y66 a2 p3 i4 s.1 s.2) (i4,l5)) else (some (.inr l5))
def y8x (data1:List zx) (a2:Int) (b3:Int) (p3:zx->zx->Option Int):Option ((List zx)):=
 iter (λ(s:Int×(List zx))=>y67 a2 b3 p3 s.1 s.2) (wr (a2+1),data1)
def y64 (v1:List zx) (p4:zx->zx->Option Int) (v5:Int) (v6:Int) (v7:Int) (v8:Bool) (v9:Bool):Option ((Int×Int×Int×Bool×Bool) ⊕ ((List zx))):=
 if decide ((wr (v6-v5))<=12) then ((y8x v1 v5 v6 p4).bind λr12=>if r12.length=v1.length then (some (.inr r12)) else none) else (if decide (v7=0) then none else none)
def y3s (v1:List zx) (v2:Int) (v3:Int) (v4:Int) (p4:zx->zx->Option Int):Option ((List zx)):=
 iter (λ(s:Int×Int×Int×Bool×Bool)=>y64 v1 p4 s.1 s.2.1 s.2.2.1 s.2.2.2.1 s.2.2.2.2) (v2,v3,v4,true,true)
def y3v (x1:List zx) (p1:zx->zx->Option Int):Option ((List zx)):=
 (z5t (IntKind.wrap .u64 (x1.length:Int))).bind λr2=>(y3s x1 0 (x1.length:Int) r2 p1).bind λr4=>if r4.length=x1.length then some r4 else none
def y2r (i4:Int) (data28:List zu):Option ((Int×(List zu)) ⊕ ((List zu))):=
 some (.inl (wr (i4+1),data28))
def z8w (i4:Int) (j8:Int) (l9:List zu) (v20:Bool):Option ((Int×(List zu)) ⊕ ((Int×(List zu)) ⊕ ((List zu)))):=
 if v20 then ((at? l9 (wr (j8-1))).bind λ(x22:zu)=>(at? l9 j8).bind λ(x24:zu)=>(at? (l9.set j8.toNat x22) (wr (j8-1))).bind λ(x26:zu)=>some (.inl (wr (j8-1),((l9.set j8.toNat x22).set ((wr (j8-1)).toNat) x24)))) else (Option.map .inr (y2r i4 l9))
def y7a (a2:Int) (p3:zu->zu->Option Int) (i4:Int) (j8:Int) (l9:List zu):Option ((Int×(List zu)) ⊕ ((Int×(List zu)) ⊕ ((List zu)))):=
 if decide (a2 < j8) then ((at? l9 j8).bind λ(x13:zu)=>(at? l9 (wr (j8-1))).bind λ(x15:zu)=>(p3 x13 x15).bind λr17=>z8w i4 j8 l9 (decide (r17 < 0))) else (z8w i4 j8 l9 false)
def y7b (a2:Int) (b3:Int) (p3:zu->zu->Option Int) (i4:Int) (l5:List zu):Option ((Int×(List zu)) ⊕ ((List zu))):=
 if decide (i4 < b3) then (iter (λ(s:Int×(List zu))=>y7a a2 p3 i4 s.1 s.2) (i4,l5)) else (some (.inr l5))
def y8y (data1:List zu) (a2:Int) (b3:Int) (p3:zu->zu->Option Int):Option ((List zu)):=
 iter (λ(s:Int×(List zu))=>y7b a2 b3 p3 s.1 s.2) (wr (a2+1),data1)
def y65 (v1:List zu) (p4:zu->zu->Option Int) (v5:Int) (v6:Int) (v7:Int) (v8:Bool) (v9:Bool):Option ((Int×Int×Int×Bool×Bool) ⊕ ((List zu))):=
 if decide ((wr (v6-v5))<=12) then ((y8y v1 v5 v6 p4).bind λr12=>if r12.length=v1.length then (some (.inr r12)) else none) else (if decide (v7=0) then none else none)
def y3t (v1:List zu) (v2:Int) (v3:Int) (v4:Int) (p4:zu->zu->Option Int):Option ((List zu)):=
 iter (λ(s:Int×Int×Int×Bool×Bool)=>y65 v1 p4 s.1 s.2.1 s.2.2.1 s.2.2.2.1 s.2.2.2.2) (v2,v3,v4,true,true)
def z9n (x1:List zu) (p1:zu->zu->Option Int):Option ((List zu)):=
 (z5t (IntKind.wrap .u64 (x1.length:Int))).bind λr2=>(y3t x1 0 (x1.length:Int) r2 p1).bind λr4=>if r4.length=x1.length then some r4 else none
def Wp (a1:zx) (b2:zx):Option Int:=
 (xf a1.app_ b2.app_).bind λr3=>(xf a1.product_ b2.product_).bind λr5=>(Wt [r3,r5]).bind λr7=>some r7
def z22 (a1:zu) (b2:zu):Option Int:=
 (xf a1.Owner b2.Owner).bind λr3=>some r3
def z7g (x6:Int):Option Int:=
 some x6
def z25 (x1:Int) (n2:Int):Option Int:=
 if decide (n2 < 1) then some 0 else (if n2≠0 then (if decide ((Int.tmod x1 n2) < 0) then (z7g (wr ((Int.tmod x1 n2)+n2))) else (z7g (Int.tmod x1 n2))) else none)
def xh (s1:zq) (n2:Int):Option (Int×zq):=
 if decide ((s1.L.length:Int)=0) then ((z25 (wr ((wr (s1.at_+1))*7919)) n2).bind λr4=>some (r4,(zq.mk s1.L (wr (s1.at_+1))))) else (if (s1.L.length:Int)≠0 then (if ((0:Int)<=(wr ((wr (s1.at_+1))-1))/\(wr ((wr (s1.at_+1))-1))<=9223372036854775807)/\(0:Int) < (s1.L.length:Int) then ((at? s1.L (Int.tmod (wr ((wr (s1.at_+1))-1)) (s1.L.length:Int))).bind λ(x8:Int)=>(z25 x8 1073741824).bind λr10=>(z25 (wr (r10+(wr (((wr ((wr (s1.at_+1))-1)) / (s1.L.length:Int))*(wr (7919+(Int.tmod (wr ((wr (s1.at_+1))-1)) (s1.L.length:Int)))))))) n2).bind λr12=>some (r12,(zq.mk s1.L (wr (s1.at_+1))))) else none) else none)
def km (s1:zq) (n2:Int):Option (Bool×zq):=
 (xh s1 n2).bind λr3=>some (decide (r3.1=0),r3.2)
def jq (s1:zq) (l2:List Bs):Option (Bs×zq):=
 (xh s1 (l2.length:Int)).bind λr3=>(at? l2 r3.1).bind λ(x5:Bs)=>some (x5,r3.2)
def jl (s1:zq) (l2:List Int):Option (Int×zq):=
 (xh s1 (l2.length:Int)).bind λr3=>(at? l2 r3.1).bind λ(x5:Int)=>some (x5,r3.2)
def Ws (s1:zq) (low2:Int) (high3:Int):Option (Int×zq):=
 if decide (high3 < low2) then (some (low2,s1)) else ((xh s1 (wr ((wr (high3-low2))+1))).bind λr5=>some (wr (low2+r5.1),r5.2))
def ur (s1:zq) (low2:Int) (high3:Int):Option (Int×zq):=
 (km s1 12).bind λr4=>if r4.1 then ((jl r4.2 [wr (low2-1),wr (high3+1),low2,high3,(-1099511627776),1099511627776]).bind λr7=>some (r7.1,r7.2)) else ((Ws r4.2 low2 high3).bind λr9=>some (r9.1,r9.2))
def z67 (k7:Nat) (c4:List Int) (c5:Int) (l6:List Bs):Option (((List Int)×Int×(List Bs)) ⊕ ((List Bs)×zq)):=
 (jq (zq.mk c4 c5) ([[97],[97,58,42],[97,58,98],[97,58,98,58,42],[97,58,98,58,99],[98],[98,58,42],[98,58,99],[42]])).bind λr11=>if l6.length+1<=1000000000 then (some (.inl (r11.2.L,r11.2.at_,(l6++[r11.1])))) else none
def y1c (c4:List Int) (c5:Int) (l6:List Bs):Option ((List Bs)×zq):=
 some (l6,(zq.mk c4 c5))
def z1a (s1:zq):Option ((List Bs)×zq):=
 (Ws s1 0 4).bind λr2=>if r2.1<=1000000000 then rng (λ(k:Nat) (s:(List Int)×Int×(List Bs))=>z67 k s.1 s.2.1 s.2.2) (λ(s:(List Int)×Int×(List Bs))=>y1c s.1 s.2.1 s.2.2) r2.1.toNat 0 (r2.2.L,r2.2.at_,[]) else none
def y0d (s1:zq):Option (Bs×zq):=
 (km s1 25).bind λr2=>if r2.1 then ((z9m [97,58] 10).bind λr5=>if r5.length+[97].length<=1000000000 then ((jq r2.2 ([[],[97,58,42,58,98],[65],[97,58,58,98],[97,58],[42,42],[97,42],(r5++[97])])).bind λr8=>some (r8.1,r8.2)) else none) else ((jq r2.2 ([[42],[97],[97,58,42],[97,58,98],[97,58,98,58,42],[97,58,98,58,99],[98],[98,58,42],[98,58,99],[99]])).bind λr10=>some (r10.1,r10.2))
def z65 (out17:List Bs) (c18:List Int) (c19:Int):Option ((List Bs)×zq):=
 some (out17,(zq.mk c18 c19))
def z3s (out10:List Bs) (c11:List Int) (c12:Int):Option ((List Bs)×zq):=
 (km (zq.mk c11 c12) 60).bind λr13=>if r13.1 then (if 51<=1000000000 then (z65 (List.replicate 51 []) r13.2.L r13.2.at_) else none) else (z65 out10 r13.2.L r13.2.at_)
def y0c (s1:zq):Option ((List Bs)×zq):=
 (z1a s1).bind λr2=>(km r2.2 6).bind λr4=>if r4.1 then ((y0d r4.2).bind λr7=>if r2.1.length+1<=1000000000 then (z3s (r2.1++[r7.1]) r7.2.L r7.2.at_) else none) else (z3s r2.1 r4.2.L r4.2.at_)
def z68 (k34:Nat) (v30:Int) (l31:List yu) (c32:List Int) (c33:Int):Option ((Int×(List yu)×(List Int)×Int) ⊕ (((List yd)×(List Int)×Int) ⊕ (zw×zq))):=
 (jl (zq.mk c32 c33) [0,100,500,1500]).bind λr39=>if l31.length+1<=1000000000 then ((jl r39.2 [1,9,100]).bind λr42=>some (.inl (wr (v30+r42.1),(l31++[(yu.mk v30 r39.1)]),r42.2.L,r42.2.at_))) else none
def Qo (c44:List Int) (c45:Int) (l46:List yd):Option (((List yd)×(List Int)×Int) ⊕ (zw×zq)):=
 some (.inl (l46,c44,c45))
def z7a (l4:List yd) (x10:Bs) (r16:Bs×zq) (r18:Int×zq) (r20:Int×zq) (r22:Int×zq) (r24:Int×zq) (r26:Bool×zq) (v30:Int) (l31:List yu) (c32:List Int) (c33:Int):Option (((List yd)×(List Int)×Int) ⊕ (zw×zq)):=
 if l4.length+1<=1000000000 then (Qo c32 c33 (l4++[(yd.mk x10 r16.1 r18.1 r20.1 l31 r22.1 r24.1 r26.1)])) else none
def z69 (k7:Nat) (x10:Bs) (l4:List yd) (c5:List Int) (c6:Int):Option (((List yd)×(List Int)×Int) ⊕ (zw×zq)):=
 (km (zq.mk c5 c6) 5).bind λr13=>if r13.1 then (Qo r13.2.L r13.2.at_ l4) else ((jq r13.2 ([[115,104,111,112],[115,104,111,112],[109,97,112,115]])).bind λr16=>(jl r16.2 [0,0,1000,3000,31]).bind λr18=>(jl r18.2 [0,10,100]).bind λr20=>(jl r20.2 [(-1),(-1),0,1000]).bind λr22=>(jl r22.2 [0,0,1,2]).bind λr24=>(km r24.2 2).bind λr26=>(jl r26.2 [0,1,2,3]).bind λr28=>if r28.1<=1000000000 then rng (λ(k:Nat) (s:Int×(List yu)×(List Int)×Int)=>z68 k s.1 s.2.1 s.2.2.1 s.2.2.2) (λ(s:Int×(List yu)×(List Int)×Int)=>z7a l4 x10 r16 r18 r20 r22 r24 r26 s.1 s.2.1 s.2.2.1 s.2.2.2) r28.1.toNat 0 (1,([]:List yu),r28.2.L,r28.2.at_) else none)
def z7b (r2:((List Bs)×zq)) (l4:List yd) (c5:List Int) (c6:Int):Option (zw×zq):=
 some ((zw.mk ([(yl.mk [109,97,112,115] r2.1),(yl.mk [115,104,111,112] ([[111,114,100,101,114,115]]))]) l4),(zq.mk c5 c6))
def z24 (s1:zq):Option (zw×zq):=
 (z1a s1).bind λr2=>if ([[98,105,103],[102,114,101,101],[109,105,100],[115,109,97,108,108]]).length<=1000000000 then forL (λ(k:Nat) (x:Bs) (s:(List yd)×(List Int)×Int)=>z69 k x s.1 s.2.1 s.2.2) (λ(s:(List yd)×(List Int)×Int)=>z7b r2 s.1 s.2.1 s.2.2) 0 ([[98,105,103],[102,114,101,101],[109,105,100],[115,109,97,108,108]]) (([]:List yd),r2.2.L,r2.2.at_) else none
def y48 (c:zw) (s:zq):Option (zw×zq):=
 (xh s (c.Plans.length:Int)).bind λr13=>(at? c.Plans r13.1).bind λ(x15:yd)=>(xh r13.2 6).bind λr17=>if decide (r17.1=0) then ((jq r17.2 ([[],[65],[98,105,103]])).bind λr20=>some ((zw.mk c.Products (c.Plans.set r13.1.toNat (yd.mk r20.1 x15.Product x15.Base x15.Free x15.Tiers x15.Limit x15.Trial x15.Asked))),r20.2)) else (if decide (r17.1=1) then ((jq r17.2 ([[110,111,110,101],[]])).bind λr20=>some ((zw.mk c.Products (c.Plans.set r13.1.toNat (yd.mk x15.Key r20.1 x15.Base x15.Free x15.Tiers x15.Limit x15.Trial x15.Asked))),r20.2)) else (if decide (r17.1=2) then ((ur r17.2 0 1000).bind λr20=>(ur r20.2 0 1000).bind λr22=>some ((zw.mk c.Products (c.Plans.set r13.1.toNat (yd.mk x15.Key x15.Product r20.1 r22.1 x15.Tiers x15.Limit x15.Trial x15.Asked))),r22.2)) else (if decide (r17.1=3) then ((ur r17.2 1 100).bind λr20=>(ur r20.2 0 1000000).bind λr22=>if x15.Tiers.length+1<=1000000000 then some ((zw.mk c.Products (c.Plans.set r13.1.toNat (yd.mk x15.Key x15.Product x15.Base x15.Free (x15.Tiers++[(yu.mk r20.1 r22.1)]) x15.Limit x15.Trial x15.Asked))),r22.2) else none) else (if decide (r17.1=4) then ((ur r17.2 (-1) 100).bind λr20=>(ur r20.2 0 132).bind λr22=>some ((zw.mk c.Products (c.Plans.set r13.1.toNat (yd.mk x15.Key x15.Product x15.Base x15.Free x15.Tiers r20.1 r22.1 x15.Asked))),r22.2)) else ((jq r17.2 ([[122,122],[115,104,111,112],[]])).bind λr20=>(y0c r20.2).bind λr22=>if c.Products.length+1<=1000000000 then some ((zw.mk (c.Products++[(yl.mk r20.1 r22.1)]) c.Plans),r22.2) else none)))))
def y0k (s1:zq):Option (zw×zq):=
 (z24 s1).bind λr2=>if decide ((r2.1.Plans.length:Int) > 0) then ((km r2.2 12).bind λr6=>if r6.1 then y48 r2.1 r6.2 else some (r2.1,r6.2)) else some (r2.1,r2.2)
def y0f (s1:zq):Option ((List zn)×zq):=
 (jq s1 ([[97,110,110],[98,111,98]])).bind λr2=>(jl r2.2 [1,2,3,3]).bind λr4=>if (0:Int)<=r4.1/\r4.1<=(([(zn.mk [97,112,112,49] [97,110,110]),(zn.mk [97,112,112,50] r2.1),(zn.mk [97,112,112,51] [98,111,98])]:(List zn)).length:Int) then (some ((([(zn.mk [97,112,112,49] [97,110,110]),(zn.mk [97,112,112,50] r2.1),(zn.mk [97,112,112,51] [98,111,98])]:(List zn)).take r4.1.toNat),r4.2)) else none
def z7f (out12:List zn) (c13:List Int) (c14:Int):Option ((List zn)×zq):=
 some (out12,(zq.mk c13 c14))
def y0l (s1:zq):Option ((List zn)×zq):=
 (y0f s1).bind λr2=>(km r2.2 20).bind λr4=>if r4.1 then ((jq r4.2 ([[],[97,112,112,49],[122,122]])).bind λr7=>(jq r7.2 ([[97,110,110],[]])).bind λr9=>if r2.1.length+1<=1000000000 then (z7f (r2.1++[(zn.mk r7.1 r9.1)]) r9.2.L r9.2.at_) else none) else (z7f r2.1 r4.2.L r4.2.at_)
def y2q (i4:Int) (data28:List zj):Option ((Int×(List zj)) ⊕ ((List zj))):=
 some (.inl (wr (i4+1),data28))
def z8v (i4:Int) (j8:Int) (l9:List zj) (v20:Bool):Option ((Int×(List zj)) ⊕ ((Int×(List zj)) ⊕ ((List zj)))):=
 if v20 then ((at? l9 (wr (j8-1))).bind λ(x22:zj)=>(at? l9 j8).bind λ(x24:zj)=>(at? (l9.set j8.toNat x22) (wr (j8-1))).bind λ(x26:zj)=>some (.inl (wr (j8-1),((l9.set j8.toNat x22).set ((wr (j8-1)).toNat) x24)))) else (Option.map .inr (y2q i4 l9))
def y68 (a2:Int) (p3:zj->zj->Option Int) (i4:Int) (j8:Int) (l9:List zj):Option ((Int×(List zj)) ⊕ ((Int×(List zj)) ⊕ ((List zj)))):=
 if decide (a2 < j8) then ((at? l9 j8).bind λ(x13:zj)=>(at? l9 (wr (j8-1))).bind λ(x15:zj)=>(p3 x13 x15).bind λr17=>z8v i4 j8 l9 (decide (r17 < 0))) else (z8v i4 j8 l9 false)
def y69 (a2:Int) (b3:Int) (p3:zj->zj->Option Int) (i4:Int) (l5:List zj):Option ((Int×(List zj)) ⊕ ((List zj))):=
 if decide (i4 < b3) then (iter (λ(s:Int×(List zj))=>y68 a2 p3 i4 s.1 s.2) (i4,l5)) else (some (.inr l5))
def y3u (data1:List zj) (a2:Int) (b3:Int) (p3:zj->zj->Option Int):Option ((List zj)):=
 iter (λ(s:Int×(List zj))=>y69 a2 b3 p3 s.1 s.2) (wr (a2+1),data1)
def y2m (blockSize16:Int):Option (Int ⊕ ((List zj))):=
 some (.inl (wr (blockSize16*2)))
def y2n (n2:Int) (blockSize16:Int) (a23:Int):Option (Int ⊕ ((List zj))):=
 if decide ((wr (a23+blockSize16)) < n2) then none else (y2m blockSize16)
def y61 (n2:Int) (blockSize16:Int) (a19:Int) (b20:Int):Option ((Int×Int) ⊕ (Int ⊕ ((List zj)))):=
 if decide (b20<=n2) then none else (Option.map .inr (y2n n2 blockSize16 a19))
def y62 (n2:Int) (r13:List zj) (blockSize16:Int):Option (Int ⊕ ((List zj))):=
 if decide (blockSize16 < n2) then (iter (λ(s:Int×Int)=>y61 n2 blockSize16 s.1 s.2) (0,wr (2*blockSize16))) else (some (.inr r13))
def y2o (n2:Int) (p2:zj->zj->Option Int) (a11:Int) (data12:List zj):Option ((List zj)):=
 (y3u data12 a11 n2 p2).bind λr13=>if r13.length=data12.length then (iter (λ(s:Int)=>y62 n2 r13 s) 20) else none
def y63 (n2:Int) (p2:zj->zj->Option Int) (a3:Int) (b4:Int) (l5:List zj):Option ((Int×Int×(List zj)) ⊕ ((List zj))):=
 if decide (b4<=n2) then ((y3u l5 a3 b4 p2).bind λr8=>if r8.length=l5.length then (some (.inl (b4,wr (b4+20),r8))) else none) else (Option.map .inr (y2o n2 p2 a3 l5))
def y3r (data1:List zj) (n2:Int) (p2:zj->zj->Option Int):Option ((List zj)):=
 iter (λ(s:Int×Int×(List zj))=>y63 n2 p2 s.1 s.2.1 s.2.2) (0,20,data1)
def z5i (x1:List zj) (p1:zj->zj->Option Int):Option ((List zj)):=
 (y3r x1 (x1.length:Int) p1).bind λr2=>if r2.length=x1.length then some r2 else none
def Qk (a1:zj) (b2:zj):Option Int:=
 if decide (a1.At≠b2.At) then ((z5u (wr (a1.At-b2.At))).bind λr4=>some r4) else ((z2r [a1.App,a1.Product] [b2.App,b2.Product]).bind λr6=>some r6)
def z8x (v15:Int) (v28:Int) (v29:List zj):Option ((Int×Int×(List zj)) ⊕ (Int ⊕ ((List zj)))):=
 some (.inl (v28,wr (v15+1),v29))
def y2u (v30:Int) (v31:List zj):Option (Int ⊕ ((List zj))):=
 if (0:Int)<=v30/\v30 < (v31.length:Int) then (if (0:Int)<=v30/\v30<=((v31.take v30.toNat++List.replicate (v31.length-v30.toNat) (zj.mk 0 [] [] 0 [])).length:Int) then (some (.inr ((v31.take v30.toNat++List.replicate (v31.length-v30.toNat) (zj.mk 0 [] [] 0 [])).take v30.toNat))) else none) else none
def y7m (p1:zj->zj->Option Bool) (v3:Int) (v14:Int) (v15:Int) (l16:List zj):Option ((Int×Int×(List zj)) ⊕ (Int ⊕ ((List zj)))):=
 if decide (v15 < ((l16.drop v3.toNat).length:Int)) then ((at? (l16.drop v3.toNat) v15).bind λ(x19:zj)=>(at? (l16.drop v3.toNat) (wr (v15-1))).bind λ(x21:zj)=>(p1 x19 x21).bind λr23=>if !r23 then ((at? l16 v14).bind λ(x26:zj)=>z8x v15 (wr (v14+1)) (l16.set v14.toNat x19)) else (z8x v15 v14 l16)) else (Option.map .inr (y2u v14 l16))
def y2v (v1:List zj):Option ((List zj)):=
 some v1
def y7n (v1:List zj) (p1:zj->zj->Option Bool) (v3:Int):Option (Int ⊕ ((List zj))):=
 if decide (v3 < (v1.length:Int)) then ((at? v1 v3).bind λ(x6:zj)=>(at? v1 (wr (v3-1))).bind λ(x8:zj)=>(p1 x6 x8).bind λr10=>if r10 then (if (0:Int)<=v3/\v3 < (v1.length:Int) then (iter (λ(s:Int×Int×(List zj))=>y7m p1 v3 s.1 s.2.1 s.2.2) (v3,1,v1)) else none) else (some (.inl (wr (v3+1))))) else (Option.map .inr (y2v v1))
def y8z (v1:List zj) (p1:zj->zj->Option Bool):Option ((List zj)):=
 if decide ((v1.length:Int) < 2) then some v1 else (iter (λ(s:Int)=>y7n v1 p1 s) 1)
def y0i (a1:zj) (b2:zj):Option Bool:=
 (Qk a1 b2).bind λr3=>some (decide (r3=0))
def y4c (s1:zq):Option (Bs×zq):=
 (jq s1 ([[97,112,112,49],[97,112,112,49],[97,112,112,49],[97,112,112,50],[97,112,112,51],[110,111,110,101]])).bind λr2=>some (r2.1,r2.2)
def y4b (s1:zq):Option (Bs×zq):=
 (jq s1 ([[115,104,111,112],[115,104,111,112],[115,104,111,112],[109,97,112,115],[110,111,110,101]])).bind λr2=>some (r2.1,r2.2)
def z3k (out23:List ya) (refused24:List Int):Option (((List ya)×(List Int)) ⊕ ((List ya)×(List Int))):=
 some (.inl (out23,refused24))
def y4p (c1:zw) (app3:Bs) (product4:Bs) (k9:Nat) (x12:zj) (l7:List ya) (l8:List Int):Option (((List ya)×(List Int)) ⊕ ((List ya)×(List Int))):=
 if ((decide (x12.App≠app3)) || (decide (x12.Product≠product4))) then (z3k l7 l8) else ((at? l7 (wr ((l7.length:Int)-1))).bind λ(x16:ya)=>(z08 c1 x16 x12).bind λr18=>if r18.2 then (if l7.length+1<=1000000000 then (z3k (l7++[r18.1]) l8) else none) else (if l8.length+1<=1000000000 then (z3k l7 (l8++[(k9:Int)])) else none))
def y4q (l7:List ya) (l8:List Int):Option ((List ya)×(List Int)):=
 some (l7,l8)
def z96 (c1:zw) (l2:List zj) (app3:Bs) (product4:Bs):Option ((List ya)×(List Int)):=
 (z07 ).bind λr5=>if l2.length<=1000000000 then forL (λ(k:Nat) (x:zj) (s:(List ya)×(List Int))=>y4p c1 app3 product4 k x s.1 s.2) (λ(s:(List ya)×(List Int))=>y4q s.1 s.2) 0 l2 (([r5]:(List ya)),[]) else none
def z7e (v117:List Bs):Option ((List Bs) ⊕ ((Int×(List Int)×Int×(List zj)) ⊕ ((List zj)×zq))):=
 some (.inl v117)
def y44 (r25:Bs×zq) (k46:Nat) (x49:yd) (l45:List Bs):Option ((List Bs) ⊕ ((Int×(List Int)×Int×(List zj)) ⊕ ((List zj)×zq))):=
 if decide (x49.Product=r25.1) then (if l45.length+1<=1000000000 then (z7e (l45++[x49.Key])) else none) else (z7e l45)
def z1g (v118:Int) (v119:List zj) (c120:List Int) (c121:Int):Option ((Int×(List Int)×Int×(List zj)) ⊕ ((List zj)×zq)):=
 some (.inl (v118,c120,c121,v119))
def Yy (v5:Int) (l8:List zj) (r21:Int×zq) (c105:List Int) (c106:Int) (c107:Int) (c108:Bs) (c109:Bs) (c110:Int) (c111:Bs):Option ((Int×(List Int)×Int×(List zj)) ⊕ ((List zj)×zq)):=
 if l8.length+1<=1000000000 then (z1g (wr (v5+r21.1)) (l8++[(zj.mk c107 c108 c109 c110 c111)]) c105 c106) else none
def z3u (v5:Int) (l8:List zj) (r21:Int×zq) (r25:Bs×zq) (c44:Bs) (c76:Int) (c83:List Int) (c84:Int) (c85:Bs):Option ((Int×(List Int)×Int×(List zj)) ⊕ ((List zj)×zq)):=
 (km (zq.mk c83 c84) 60).bind λr86=>if r86.1 then ((xh r86.2 5).bind λr89=>if decide (r89.1=0) then ((y4c r89.2).bind λr92=>Yy v5 l8 r21 r92.2.L r92.2.at_ (wr (v5+r21.1)) r92.1 r25.1 c76 c85) else (if decide (r89.1=1) then ((y4b r89.2).bind λr95=>Yy v5 l8 r21 r95.2.L r95.2.at_ (wr (v5+r21.1)) c44 r95.1 c76 c85) else (if decide (r89.1=2) then ((ur r89.2 1 6).bind λr98=>Yy v5 l8 r21 r98.2.L r98.2.at_ (wr (v5+r21.1)) c44 r25.1 r98.1 c85) else (if decide (r89.1=3) then ((jq r89.2 ([[98,105,103],[110,111,110,101],[]])).bind λr101=>Yy v5 l8 r21 r101.2.L r101.2.at_ (wr (v5+r21.1)) c44 r25.1 c76 r101.1) else ((ur r89.2 0 1000).bind λr103=>Yy v5 l8 r21 r103.2.L r103.2.at_ r103.1 c44 r25.1 c76 c85))))) else (Yy v5 l8 r21 r86.2.L r86.2.at_ (wr (v5+r21.1)) c44 r25.1 c76 c85)
def Yz (v5:Int) (l8:List zj) (r21:Int×zq) (r25:Bs×zq) (c44:Bs) (l45:List Bs) (c74:List Int) (c75:Int) (c76:Int):Option ((Int×(List Int)×Int×(List zj)) ⊕ ((List zj)×zq)):=
 if decide (c76=1) then (if decide ((l45.length:Int)=0) then (z1g (wr (v5+r21.1)) l8 c74 c75) else ((xh (zq.mk c74 c75) (l45.length:Int)).bind λr79=>(at? l45 r79.1).bind λ(x81:Bs)=>z3u v5 l8 r21 r25 c44 c76 r79.2.L r79.2.at_ x81)) else (z3u v5 l8 r21 r25 c44 c76 c74 c75 [])
def z1e (v2:zw) (v5:Int) (l8:List zj) (r21:Int×zq) (r25:Bs×zq) (r27:Int×zq) (c44:Bs) (l45:List Bs) (v57:Bool) (c58:List Int) (c59:Int):Option ((Int×(List Int)×Int×(List zj)) ⊕ ((List zj)×zq)):=
 if v57 then ((z96 v2 l8 c44 r25.1).bind λr61=>(at? r61.1 (wr ((r61.1.length:Int)-1))).bind λ(x63:ya)=>if decide (x63.State=1) then ((jl (zq.mk c58 c59) [2,2,3]).bind λr66=>Yz v5 l8 r21 r25 c44 l45 r66.2.L r66.2.at_ r66.1) else (if decide (x63.State=2) then ((jl (zq.mk c58 c59) [4,6,1]).bind λr69=>Yz v5 l8 r21 r25 c44 l45 r69.2.L r69.2.at_ r69.1) else (if decide (x63.State=3) then ((jl (zq.mk c58 c59) [5,6]).bind λr72=>Yz v5 l8 r21 r25 c44 l45 r72.2.L r72.2.at_ r72.1) else (Yz v5 l8 r21 r25 c44 l45 c58 c59 1)))) else (Yz v5 l8 r21 r25 c44 l45 c58 c59 r27.1)
def y46 (v2:zw) (v5:Int) (l8:List zj) (r21:Int×zq) (r25:Bs×zq) (r27:Int×zq) (c42:List Int) (c43:Int) (c44:Bs) (l45:List Bs):Option ((Int×(List Int)×Int×(List zj)) ⊕ ((List zj)×zq)):=
 (km (zq.mk c42 c43) 4).bind λr50=>if !r50.1 then ((z55 v2).bind λr54=>z1e v2 v5 l8 r21 r25 r27 c44 l45 (decide (r54=0)) r50.2.L r50.2.at_) else (z1e v2 v5 l8 r21 r25 r27 c44 l45 false r50.2.L r50.2.at_)
def z1f (v2:zw) (v5:Int) (l8:List zj) (r21:Int×zq) (r25:Bs×zq) (r27:Int×zq) (c42:List Int) (c43:Int) (c44:Bs):Option ((Int×(List Int)×Int×(List zj)) ⊕ ((List zj)×zq)):=
 if v2.Plans.length<=1000000000 then forL (λ(k:Nat) (x:yd) (s:List Bs)=>y44 r25 k x s) (λ(s:List Bs)=>y46 v2 v5 l8 r21 r25 r27 c42 c43 c44 s) 0 v2.Plans [] else none
def z7d (v2:zw) (v3:List zn) (v5:Int) (l8:List zj) (r21:Int×zq) (r23:Bs×zq) (r25:Bs×zq) (r27:Int×zq) (v34:Bool) (c35:List Int) (c36:Int):Option ((Int×(List Int)×Int×(List zj)) ⊕ ((List zj)×zq)):=
 if v34 then ((xh (zq.mk c35 c36) (v3.length:Int)).bind λr38=>(at? v3 r38.1).bind λ(x40:zn)=>z1f v2 v5 l8 r21 r25 r27 r38.2.L r38.2.at_ x40.Key) else (z1f v2 v5 l8 r21 r25 r27 c35 c36 r23.1)
def y45 (v2:zw) (v3:List zn) (k9:Nat) (v5:Int) (c6:List Int) (c7:Int) (l8:List zj):Option ((Int×(List Int)×Int×(List zj)) ⊕ ((List zj)×zq)):=
 (jl (zq.mk c6 c7) [1,5,86400000,864000000,2592000000,wr (2592000000-(Int.tmod v5 2592000000))]).bind λr21=>(jq r21.2 ([[97,112,112,49],[97,112,112,49],[97,112,112,50]])).bind λr23=>(jq r23.2 ([[115,104,111,112],[115,104,111,112],[109,97,112,115]])).bind λr25=>(Ws r25.2 1 6).bind λr27=>if decide (0 < (v3.length:Int)) then ((km r27.2 3).bind λr31=>z7d v2 v3 v5 l8 r21 r23 r25 r27 r31.1 r31.2.L r31.2.at_) else (z7d v2 v3 v5 l8 r21 r23 r25 r27 false r27.2.L r27.2.at_)
def y47 (v5:Int) (c6:List Int) (c7:Int) (l8:List zj):Option ((List zj)×zq):=
 (z5i l8 (λ(a0:zj) (a1:zj)=>Qk a0 a1)).bind λr12=>if r12.length=l8.length then ((km (zq.mk c6 c7) 60).bind λr15=>if r15.1 then (some (r12,r15.2)) else ((y8z r12 (λ(a0:zj) (a1:zj)=>y0i a0 a1)).bind λr18=>some (r18,r15.2))) else none
def y0j (s1:zq) (v2:zw) (v3:List zn) (v4:Int):Option ((List zj)×zq):=
 if v4<=1000000000 then rng (λ(k:Nat) (s:Int×(List Int)×Int×(List zj))=>y45 v2 v3 k s.1 s.2.1 s.2.2.1 s.2.2.2) (λ(s:Int×(List Int)×Int×(List zj))=>y47 s.1 s.2.1 s.2.2.1 s.2.2.2) v4.toNat 0 (0,s1.L,s1.at_,[]) else none
def z54 (v1:Int):Option Bool:=
 (kx v1 0 345686399999).bind λr2=>some r2
def z60 (v47:Bool):Option (Unit ⊕ (Int)):=
 if v47 then (some (.inr 7)) else (some (.inl ()))
def z3q (v3:List zj) (k8:Nat) (x11:zj) (v38:Bool):Option (Unit ⊕ (Int)):=
 if v38 then (some (.inr 16)) else (if decide (0 < (k8:Int)) then ((at? v3 ((k8:Int)-1)).bind λ(x42:zj)=>(Qk x42 x11).bind λr44=>z60 (decide (0<=r44))) else (z60 false))
def z61 (v1:zw) (v3:List zj) (k8:Nat) (x11:zj) (r14:Int) (v26:Bool):Option (Unit ⊕ (Int)):=
 if v26 then (some (.inr 8)) else ((kx x11.Kind 1 6).bind λr28=>if !r28 then (some (.inr 4)) else (if ((!(decide (x11.Kind=1))) && (decide (x11.Plan≠[]))) then (some (.inr 3)) else (if ((decide (x11.Kind=1)) && (decide (r14 < 0))) then (some (.inr 8)) else (if decide (x11.Kind=1) then ((at? v1.Plans r14).bind λ(x35:yd)=>z3q v3 k8 x11 (decide (x35.Product≠x11.Product))) else (z3q v3 k8 x11 false)))))
def y1b (v1:zw) (v2:List zn) (v3:List zj) (k8:Nat) (x11:zj):Option (Unit ⊕ (Int)):=
 (xr v1 x11.Plan).bind λr14=>(z54 x11.At).bind λr16=>if !r16 then (some (.inr 1)) else ((z58 v2 x11.App).bind λr19=>if decide (r19 < 0) then (z61 v1 v3 k8 x11 r14 true) else ((z2z v1 x11.Product).bind λr23=>z61 v1 v3 k8 x11 r14 (decide (r23 < 0))))
def y9z:Option Int:=
 some 0
def y0a (v1:zw) (v2:List zn) (v3:List zj):Option Int:=
 (z5y v1 v2).bind λr4=>if decide (r4≠0) then some r4 else (if decide (1000 < (v3.length:Int)) then some 2 else (if v3.length<=1000000000 then forL (λ(k:Nat) (x:zj) (s:Unit)=>y1b v1 v2 v3 k x) (λ(s:Unit)=>y9z) 0 v3 () else none))
def y0n (s1:zq) (many2:Int):Option (zw×(List zn)×(List zj)×Int×zq):=
 (y0k s1).bind λr3=>(y0l r3.2).bind λr5=>(y0j r5.2 r3.1 r5.1 many2).bind λr7=>(y0a r3.1 r5.1 r7.1).bind λr9=>some (r3.1,r5.1,r7.1,r9,r7.2)
def z9x (c1:zw) (plan2:Bs) (calls3:Int):Option (Int×Int):=
 (z2v c1).bind λr4=>if decide (r4≠0) then (some (0,r4)) else ((Yu c1 plan2).bind λr7=>if !r7.2 then (some (0,8)) else ((xg calls3 0 1000000000000).bind λr10=>if r10 then (some (0,1)) else ((z5k r7.1 calls3).bind λr13=>some (r13,0))))
def y0m  : Option Bool:=
 (z9x (zw.mk ([(yl.mk [112] [])]) ([(yd.mk [113] [112] 0 0 [(yu.mk 1 2000)] 0 0 false)])) [113] 3).bind λr1=>some ((decide (r1.2=0)) && (decide (r1.1=6)))
def z66 (out34:List zz) (c35:List Int) (c36:Int):Option (((List Int)×Int×(List zz)) ⊕ (((List Int)×Int×(List zz)) ⊕ (((List Int)×Int×(List zz)) ⊕ ((List zz)×zq)))):=
 some (.inl (c35,c36,out34))
def y4z (k6:Nat) (x16:zn) (k22:Nat) (x25:Bs) (c19:List Int) (c20:Int) (l21:List zz):Option (((List Int)×Int×(List zz)) ⊕ (((List Int)×Int×(List zz)) ⊕ (((List Int)×Int×(List zz)) ⊕ ((List zz)×zq)))):=
 (km (zq.mk c19 c20) 2).bind λr28=>if r28.1 then ((jl r28.2 [0,5,10,11,100,150,1000]).bind λr31=>if l21.length+1<=1000000000 then (z66 (l21++[(zz.mk x16.Key x25 (k6:Int) r31.1)]) r31.2.L r31.2.at_) else none) else (z66 l21 r28.2.L r28.2.at_)
def y90 (c19:List Int) (c20:Int) (l21:List zz):Option (((List Int)×Int×(List zz)) ⊕ (((List Int)×Int×(List zz)) ⊕ ((List zz)×zq))):=
 some (.inl (c19,c20,l21))
def y40 (k6:Nat) (k13:Nat) (x16:zn) (c10:List Int) (c11:Int) (l12:List zz):Option (((List Int)×Int×(List zz)) ⊕ (((List Int)×Int×(List zz)) ⊕ ((List zz)×zq))):=
 if ([[109,97,112,115],[115,104,111,112]]).length<=1000000000 then forL (λ(k:Nat) (x:Bs) (s:(List Int)×Int×(List zz))=>y4z k6 x16 k x s.1 s.2.1 s.2.2) (λ(s:(List Int)×Int×(List zz))=>y90 s.1 s.2.1 s.2.2) 0 ([[109,97,112,115],[115,104,111,112]]) (c10,c11,l12) else none
def y91 (c10:List Int) (c11:Int) (l12:List zz):Option (((List Int)×Int×(List zz)) ⊕ ((List zz)×zq)):=
 some (.inl (c10,c11,l12))
def y41 (apps2:List zn) (k6:Nat) (c3:List Int) (c4:Int) (l5:List zz):Option (((List Int)×Int×(List zz)) ⊕ ((List zz)×zq)):=
 if apps2.length<=1000000000 then forL (λ(k:Nat) (x:zn) (s:(List Int)×Int×(List zz))=>y40 k6 k x s.1 s.2.1 s.2.2) (λ(s:(List Int)×Int×(List zz))=>y91 s.1 s.2.1 s.2.2) 0 apps2 (c3,c4,l5) else none
def y92 (c3:List Int) (c4:Int) (l5:List zz):Option ((List zz)×zq):=
 some (l5,(zq.mk c3 c4))
def y0e (s1:zq) (apps2:List zn):Option ((List zz)×zq):=
 if 3<=1000000000 then rng (λ(k:Nat) (s:(List Int)×Int×(List zz))=>y41 apps2 k s.1 s.2.1 s.2.2) (λ(s:(List Int)×Int×(List zz))=>y92 s.1 s.2.1 s.2.2) 3 0 (s1.L,s1.at_,[]) else none
def z64 (out24:List zz) (c25:List Int) (c26:Int):Option ((List zz)×zq):=
 some (out24,(zq.mk c25 c26))
def z3r (r3:((List zz)×zq)) (v10:Bool) (c11:List Int) (c12:Int):Option ((List zz)×zq):=
 if v10 then ((xh (zq.mk c11 c12) (r3.1.length:Int)).bind λr14=>(at? r3.1 r14.1).bind λ(x16:zz)=>(jq r14.2 ([x16.App,[110,111,110,101]])).bind λr18=>(ur r18.2 0 132).bind λr20=>(ur r20.2 0 1000).bind λr22=>z64 (((r3.1.set r14.1.toNat (zz.mk r18.1 x16.Product x16.Month x16.Calls)).set r14.1.toNat (zz.mk r18.1 x16.Product r20.1 x16.Calls)).set r14.1.toNat (zz.mk r18.1 x16.Product r20.1 r22.1)) r22.2.L r22.2.at_) else (z64 r3.1 c11 c12)
def y0b (s1:zq) (apps2:List zn):Option ((List zz)×zq):=
 (y0e s1 apps2).bind λr3=>if decide (0 < (r3.1.length:Int)) then ((km r3.2 15).bind λr7=>z3r r3 r7.1 r7.2.L r7.2.at_) else (z3r r3 false r3.2.L r3.2.at_)
def z03 (s1:List zn) (p1:zn->Option Bool):Option Bool:=
 (z9o s1 p1).bind λr2=>some (decide (0<=r2))
def z5o (a1:zn) (c2:Bs):Option Bool:=
 some (decide (a1.Owner=c2))
def z5p (l1:List zn) (owner2:Bs):Option Bool:=
 (z03 l1 (λ(a0:zn)=>z5o a0 owner2)).bind λr3=>some r3
def Wi (v27:Bool):Option (Unit ⊕ (Int)):=
 if v27 then (some (.inr 7)) else (some (.inl ()))
def z5b (apps1:List zn) (l2:List qc) (k7:Nat) (x10:qc):Option (Unit ⊕ (Int)):=
 (z2x x10.At).bind λr13=>if !r13 then (some (.inr 1)) else ((z5p apps1 x10.Owner).bind λr16=>if !r16 then (some (.inr 8)) else ((xg x10.Cents (-1000000000000) 1000000000000).bind λr19=>if r19 then (some (.inr 1)) else (if decide (0 < (k7:Int)) then ((at? l2 ((k7:Int)-1)).bind λ(x24:qc)=>Wi (decide (x10.At < x24.At))) else (Wi false))))
def y8a:Option Int:=
 some 0
def z5s (apps1:List zn) (l2:List qc):Option Int:=
 (z2w apps1).bind λr3=>if decide (r3≠0) then some r3 else (if decide (3000 < (l2.length:Int)) then some 2 else (if l2.length<=1000000000 then forL (λ(k:Nat) (x:qc) (s:Unit)=>z5b apps1 l2 k x) (λ(s:Unit)=>y8a) 0 l2 () else none))
def z5m (c1:zw) (apps2:List zn) (l3:List zj) (uses4:List zz) (pays5:List qc):Option Int:=
 (z9q c1 apps2 l3 uses4).bind λr6=>if decide (r6≠0) then some r6 else ((z5s apps2 pays5).bind λr9=>some r9)
def z5n (v1:Int):Option Int:=
 (z2x v1).bind λr2=>if !r2 then some 1 else some 0
def y7c (v2:Bs) (k3:Nat) (x6:Bs):Option (Unit ⊕ (Int)):=
 if decide (v2=x6) then (some (.inr (k3:Int))) else (some (.inl ()))
def y7d:Option Int:=
 some (-1)
def y3w (s1:List Bs) (v2:Bs):Option Int:=
 if s1.length<=1000000000 then forL (λ(k:Nat) (x:Bs) (s:Unit)=>y7c v2 k x) (λ(s:Unit)=>y7d) 0 s1 () else none
def z9p (s1:List Bs) (v2:Bs):Option Bool:=
 (y3w s1 v2).bind λr3=>some (decide (0<=r3))
def z7c (out30:List qc) (c31:List Int) (c32:Int):Option ((List qc)×zq):=
 some (out30,(zq.mk c31 c32))
def z3t (l7:List qc) (v16:Bool) (c17:List Int) (c18:Int):Option ((List qc)×zq):=
 if v16 then ((xh (zq.mk c17 c18) (l7.length:Int)).bind λr20=>(at? l7 r20.1).bind λ(x22:qc)=>(ur r20.2 0 100).bind λr24=>(jq r24.2 ([[97,110,110],[110,111,110,101]])).bind λr26=>(ur r26.2 (-1000) 1000).bind λr28=>z7c (((l7.set r20.1.toNat (qc.mk r24.1 x22.Owner x22.Cents)).set r20.1.toNat (qc.mk r24.1 r26.1 x22.Cents)).set r20.1.toNat (qc.mk r24.1 r26.1 r28.1)) r28.2.L r28.2.at_) else (z7c l7 c17 c18)
def y42 (k8:Nat) (v4:Int) (c5:List Int) (c6:Int) (l7:List qc):Option ((Int×(List Int)×Int×(List qc)) ⊕ ((List qc)×zq)):=
 (jl (zq.mk c5 c6) [0,1000,86400000,2592000000]).bind λr34=>(jq r34.2 ([[97,110,110],[97,110,110],[98,111,98]])).bind λr36=>(jl r36.2 [0,100,500,1000,(-50)]).bind λr38=>if l7.length+1<=1000000000 then (some (.inl (wr (v4+r34.1),r38.2.L,r38.2.at_,(l7++[(qc.mk (wr (v4+r34.1)) r36.1 r38.1)])))) else none
def y43 (v4:Int) (c5:List Int) (c6:Int) (l7:List qc):Option ((List qc)×zq):=
 if decide (0 < (l7.length:Int)) then ((km (zq.mk c5 c6) 15).bind λr13=>z3t l7 r13.1 r13.2.L r13.2.at_) else (z3t l7 false c5 c6)
def y0g (s1:zq):Option ((List qc)×zq):=
 (Ws s1 0 4).bind λr2=>if r2.1<=1000000000 then rng (λ(k:Nat) (s:Int×(List Int)×Int×(List qc))=>y42 k s.1 s.2.1 s.2.2.1 s.2.2.2) (λ(s:Int×(List Int)×Int×(List qc))=>y43 s.1 s.2.1 s.2.2.1 s.2.2.2) r2.1.toNat 0 (0,r2.2.L,r2.2.at_,[]) else none
def y0h (s1:zq):Option (Int×zq):=
 (jl s1 [0,1,2,3]).bind λr2=>(jl r2.2 [0,0,1,14,15,29]).bind λr4=>(jl r4.2 [0,1,1000,(-1)]).bind λr6=>some (wr ((wr ((wr (r2.1*2592000000))+(wr (r4.1*86400000))))+r6.1),r6.2)
def y37 (a1:zn) (c2:Bs):Option Bool:=
 some (decide (a1.Owner=c2))
def y38 (apps1:List zn) (owner2:Bs):Option Bool:=
 (z03 apps1 (λ(a0:zn)=>y37 a0 owner2)).bind λr3=>some r3
def y1a (v27:Bool):Option (Unit ⊕ (Int)):=
 if v27 then (some (.inr 7)) else (some (.inl ()))
def y09 (apps1:List zn) (l2:List qc) (k7:Nat) (x10:qc):Option (Unit ⊕ (Int)):=
 (z54 x10.At).bind λr13=>if !r13 then (some (.inr 1)) else ((y38 apps1 x10.Owner).bind λr16=>if !r16 then (some (.inr 8)) else ((kx x10.Cents (-1000000000000) 1000000000000).bind λr19=>if !r19 then (some (.inr 1)) else (if decide (0 < (k7:Int)) then ((at? l2 ((k7:Int)-1)).bind λ(x24:qc)=>y1a (decide (x10.At < x24.At))) else (y1a false))))
def y9y:Option Int:=
 some 0
def z99 (apps1:List zn) (l2:List qc):Option Int:=
 (z56 apps1).bind λr3=>if decide (r3≠0) then some r3 else (if decide (3000 < (l2.length:Int)) then some 2 else (if l2.length<=1000000000 then forL (λ(k:Nat) (x:qc) (s:Unit)=>y09 apps1 l2 k x) (λ(s:Unit)=>y9y) 0 l2 () else none))
def y49 (k2:Nat) (x5:Int):Option (Unit ⊕ (Int)):=
 if decide (x5≠0) then (some (.inr x5)) else (some (.inl ()))
def y5a:Option Int:=
 some 0
def z27 (l1:List Int):Option Int:=
 if l1.length<=1000000000 then forL (λ(k:Nat) (x:Int) (s:Unit)=>y49 k x) (λ(s:Unit)=>y5a) 0 l1 () else none
def y0o (y1:zn) (c2:Bs):Option Bool:=
 some (decide (y1.Owner=c2))
def z26 (is1:Bool) (e2:Int):Option Int:=
 if is1 then some e2 else some 0
def z59 (v1:Int):Option Int:=
 (z54 v1).bind λr2=>(z26 (!r2) 1).bind λr4=>some r4
def y7k (s2:List Bs) (k4:Nat) (x7:Bs):Option (Unit ⊕ (Bool)):=
 (s2[k4]?).bind λ(x10:Bs)=>if decide (x7≠x10) then (some (.inr false)) else (some (.inl ()))
def y7l:Option Bool:=
 some true
def y3z (s1:List Bs) (s2:List Bs):Option Bool:=
 if decide ((s1.length:Int)≠(s2.length:Int)) then some false else (if s1.length<=1000000000 then forL (λ(k:Nat) (x:Bs) (s:Unit)=>y7k s2 k x) (λ(s:Unit)=>y7l) 0 s1 () else none)
end
end Go.Proofs.YtbpedjpoikmbjaaGreatDoor
