/- Plain models of functions. Printed by a program. -/
import Derived.Test.YtmdllhcjefcggacGreatDoorMc
import Derived.Test.YtmdllhcjefcggacGreatDoorRng
import Derived.Test.YtmdllhcjefcggacGreatDoorMk
namespace Go.Proofs.YtmdllhcjefcggacGreatDoor
set_option linter.unusedVariables false
set_option maxRecDepth 20000
structure zr where
 L:(List Int)
 at_:Int
structure zt where
 Name:Bs
 Value:Bs
structure zw where
 At:Int
 Method:Bs
 Host:Bs
 Path:Bs
 Query:Bs
 From:Bs
 Headers:(List zt)
 Body:Bs
structure yu where
 Status:Int
 Headers:(List zt)
 Body:Bs
structure yc where
 Request:zw
 Response:yu
 At:Int
 Tags:(List Bs)
 Used:Int
structure zo where
 Name:Bs
 Value:Bs
structure wm where
 c_:Int
 plain_:Bool
structure qh where
 NoStore:Bool
 NoCache:Bool
 Private:Bool
 Public:Bool
 Must:Bool
 Only:Bool
 MaxAge:Int
 Shared:Int
 Stale:Int
 OnError:Int
 MaxStale:Int
 MinFresh:Int
def y3n (x:Int):Bool:=decide (x=0) || decide (x=1) || decide (x=2) || decide (x=3) || decide (x=4) || decide (x=5)
def y4n (c:qh) (x:Int) (y:Bool):qh:=if x=0 then qh.mk y c.NoCache c.Private c.Public c.Must c.Only c.MaxAge c.Shared c.Stale c.OnError c.MaxStale c.MinFresh else if x=1 then qh.mk c.NoStore y c.Private c.Public c.Must c.Only c.MaxAge c.Shared c.Stale c.OnError c.MaxStale c.MinFresh else if x=2 then qh.mk c.NoStore c.NoCache y c.Public c.Must c.Only c.MaxAge c.Shared c.Stale c.OnError c.MaxStale c.MinFresh else if x=3 then qh.mk c.NoStore c.NoCache c.Private y c.Must c.Only c.MaxAge c.Shared c.Stale c.OnError c.MaxStale c.MinFresh else if x=4 then qh.mk c.NoStore c.NoCache c.Private c.Public y c.Only c.MaxAge c.Shared c.Stale c.OnError c.MaxStale c.MinFresh else if x=5 then qh.mk c.NoStore c.NoCache c.Private c.Public c.Must y c.MaxAge c.Shared c.Stale c.OnError c.MaxStale c.MinFresh else c
def Qi (x:Int):Bool:=decide (x=6) || decide (x=7) || decide (x=8) || decide (x=9) || decide (x=10) || decide (x=11)
def Wx (c:qh) (x:Int):Int:=if x=6 then c.MaxAge else if x=7 then c.Shared else if x=8 then c.Stale else if x=9 then c.OnError else if x=10 then c.MaxStale else if x=11 then c.MinFresh else 0
def y00 (c:qh) (x:Int) (y:Int):qh:=if x=6 then qh.mk c.NoStore c.NoCache c.Private c.Public c.Must c.Only y c.Shared c.Stale c.OnError c.MaxStale c.MinFresh else if x=7 then qh.mk c.NoStore c.NoCache c.Private c.Public c.Must c.Only c.MaxAge y c.Stale c.OnError c.MaxStale c.MinFresh else if x=8 then qh.mk c.NoStore c.NoCache c.Private c.Public c.Must c.Only c.MaxAge c.Shared y c.OnError c.MaxStale c.MinFresh else if x=9 then qh.mk c.NoStore c.NoCache c.Private c.Public c.Must c.Only c.MaxAge c.Shared c.Stale y c.MaxStale c.MinFresh else if x=10 then qh.mk c.NoStore c.NoCache c.Private c.Public c.Must c.Only c.MaxAge c.Shared c.Stale c.OnError y c.MinFresh else if x=11 then qh.mk c.NoStore c.NoCache c.Private c.Public c.Must c.Only c.MaxAge c.Shared c.Stale c.OnError c.MaxStale y else c
noncomputable def z6d (x6:Int):Option (Int):=
 some x6
noncomputable def z1k (x1:Int) (n2:Int):Option (Int):=
 if decide (n2 < 1) then some 0 else (if n2≠0 then (if decide ((Int.tmod x1 n2) < 0) then (z6d (wr ((Int.tmod x1 n2)+n2))) else (z6d (Int.tmod x1 n2))) else none)
noncomputable def uj (s1:zr) (n2:Int):Option (Int×zr):=
 if decide ((s1.L.length:Int)=0) then ((z1k (wr ((wr (s1.at_+1)) * 7919)) n2).bind fun r4=>some (r4,(zr.mk s1.L (wr (s1.at_+1))))) else (if (s1.L.length:Int)≠0 then (if ((0:Int)≤(wr ((wr (s1.at_+1)) - 1))∧(wr ((wr (s1.at_+1)) - 1))≤9223372036854775807)∧(0:Int) < (s1.L.length:Int) then ((at? s1.L (Int.tmod (wr ((wr (s1.at_+1)) - 1)) (s1.L.length:Int))).bind fun (x8:Int)=>(z1k x8 1073741824).bind fun r10=>(z1k (wr (r10+(wr (((wr ((wr (s1.at_+1)) - 1)) / (s1.L.length:Int)) * (wr (7919+(Int.tmod (wr ((wr (s1.at_+1)) - 1)) (s1.L.length:Int)))))))) n2).bind fun r12=>some (r12,(zr.mk s1.L (wr (s1.at_+1))))) else none) else none)
noncomputable def vm (s1:zr) (l2:(List Bs)):Option (Bs×zr):=
 (uj s1 (l2.length:Int)).bind fun r3=>(at? l2 r3.1).bind fun (x5:Bs)=>some (x5,r3.2)
noncomputable def vx (s1:zr) (n2:Int):Option (Bool×zr):=
 (uj s1 n2).bind fun r3=>some (decide (r3.1=0),r3.2)
noncomputable def Zv (s1:zr) (low2:Int) (high3:Int):Option (Int×zr):=
 if decide (high3 < low2) then (some (low2,s1)) else ((uj s1 (wr ((wr (high3 - low2))+1))).bind fun r5=>some (wr (low2+r5.1),r5.2))
noncomputable def z57 (l4:(List Bs)) (k8:Nat) (c5:(List Int)) (c6:Int) (l7:(List Bs)):Option (((List Int)×Int×(List Bs)) ⊕ (Bs×zr)):=
 (vm (zr.mk c5 c6) l4).bind fun r14=>if l7.length+1≤1000000000 then (some (.inl (r14.2.L,r14.2.at_,(l7++[r14.1])))) else none
noncomputable def z58 (between3:Bs) (c5:(List Int)) (c6:Int) (l7:(List Bs)):Option (Bs×zr):=
 (jl l7 between3).bind fun r11=>some (r11,(zr.mk c5 c6))
noncomputable def kt (s1:zr) (many2:Int) (between3:Bs) (l4:(List Bs)):Option (Bs×zr):=
 if many2≤1000000000 then rng (fun (k:Nat) (s:(List Int)×Int×(List Bs))=>z57 l4 k s.1 s.2.1 s.2.2) (fun (s:(List Int)×Int×(List Bs))=>z58 between3 s.1 s.2.1 s.2.2) many2.toNat 0 (s1.L,s1.at_,[]) else none
noncomputable def z6c (t11:Bs) (c12:(List Int)) (c13:Int):Option (Bs×zr):=
 some (t11,(zr.mk c12 c13))
noncomputable def z8o (s1:zr):Option (Bs×zr):=
 (Zv s1 1 2).bind fun r2=>(kt r2.2 r2.1 [44,32] ([[109,97,120,45,97,103,101,61,51,48],[109,97,120,45,97,103,101,61,48],[109,105,110,45,102,114,101,115,104,61,50,48],[109,97,120,45,115,116,97,108,101,61,49,53],[110,111,45,99,97,99,104,101],[111,110,108,121,45,105,102,45,99,97,99,104,101,100],[109,97,120,45,115,116,97,108,101,61,49,48,48,48],[110,111,45,115,116,111,114,101]])).bind fun r4=>(vx r4.2 20).bind fun r6=>if r6.1 then ((vm r6.2 ([[109,97,120,45,115,116,97,108,101],[109,105,110,45,102,114,101,115,104,61,120]])).bind fun r9=>z6c r9.1 r9.2.L r9.2.at_) else (z6c r4.1 r6.2.L r6.2.at_)
noncomputable def z8m (s1:zr) (t2:Bs) (v3:Bs):Option (Bs×zr):=
 if ((decide (t2=[])) || (decide (v3=[]))) then (some (v3,s1)) else ((uj s1 (t2.length:Int)).bind fun r5=>(uj r5.2 (v3.length:Int)).bind fun r7=>(at? v3 r7.1).bind fun (x9:UInt8)=>(uj r7.2 3).bind fun r11=>if decide (r11.1=0) then ((sub? t2 0 r5.1).bind fun (l14:Bs)=>if l14.length+(encL (IntKind.wrap .i32 (x9.toNat:Int))).length≤1000000000 then ((sub? t2 (wr (r5.1+1)) (t2.length:Int)).bind fun (l17:Bs)=>if (l14++(encL (IntKind.wrap .i32 (x9.toNat:Int)))).length+l17.length≤1000000000 then (some (((l14++(encL (IntKind.wrap .i32 (x9.toNat:Int))))++l17),r11.2)) else none) else none) else (if decide (r11.1=1) then ((sub? t2 0 r5.1).bind fun (l21:Bs)=>if l21.length+(encL (IntKind.wrap .i32 (x9.toNat:Int))).length≤1000000000 then ((sub? t2 r5.1 (t2.length:Int)).bind fun (l24:Bs)=>if (l21++(encL (IntKind.wrap .i32 (x9.toNat:Int)))).length+l24.length≤1000000000 then (some (((l21++(encL (IntKind.wrap .i32 (x9.toNat:Int))))++l24),r11.2)) else none) else none) else ((sub? t2 0 r5.1).bind fun (l27:Bs)=>(sub? t2 (wr (r5.1+1)) (t2.length:Int)).bind fun (l29:Bs)=>if l27.length+l29.length≤1000000000 then (some ((l27++l29),r11.2)) else none)))
noncomputable def z6a (p23:Bs) (c24:(List Int)) (c25:Int):Option (Bs×zr):=
 some (p23,(zr.mk c24 c25))
noncomputable def z17 (p15:Bs) (c16:(List Int)) (c17:Int):Option (Bs×zr):=
 (vx (zr.mk c16 c17) 12).bind fun r18=>if r18.1 then ((z8m r18.2 p15 [47,46,37,50,102,65]).bind fun r21=>z6a r21.1 r21.2.L r21.2.at_) else (z6a p15 r18.2.L r18.2.at_)
noncomputable def z8j (s1:zr):Option (Bs×zr):=
 (Zv s1 0 4).bind fun r2=>(kt r2.2 r2.1 [47] ([[97],[98],[37,52,49],[37,50,102],[37,55,101],[46],[46,46],[],[120,59,121],[99,37,50,48,100],[37,99,51,37,97,52],[65],[97,46,98],[126]])).bind fun r4=>if [47].length+r4.1.length≤1000000000 then ((vx r4.2 12).bind fun r7=>if r7.1 then ((Qw [37,50,48] 340).bind fun r10=>if [47].length+r10.length≤1000000000 then ((vm r7.2 ([[],[97],[47,97,63,98],[47,97,35],[47,37],[47,37,52],[47,37,122,122],[47,127],[47,97,32,98],([47]++r10)])).bind fun r13=>z17 r13.1 r13.2.L r13.2.at_) else none) else (z17 ([47]++r4.1) r7.2.L r7.2.at_)) else none
noncomputable def z16 (q13:Bs) (c14:(List Int)) (c15:Int):Option (Bs×zr):=
 some (q13,(zr.mk c14 c15))
noncomputable def z1i (s1:zr):Option (Bs×zr):=
 (Zv s1 0 4).bind fun r2=>(kt r2.2 r2.1 [38] ([[97,61,49],[98,61,50],[97,61],[61,120],[61],[99],[],[97,61,37,52,49,43,37,50,66],[100,61,120,37,50,54,121],[98,61,37,99,51],[97,61,49,61,50],[97,63,98,61,47]])).bind fun r4=>(vx r4.2 12).bind fun r6=>if r6.1 then ((kt r6.2 101 [38] ([[120]])).bind fun r9=>(vm r9.2 ([[35],[97,37],[37,103,49,61,50],[97,32,98],[128],r9.1])).bind fun r11=>z16 r11.1 r11.2.L r11.2.at_) else (z16 r4.1 r6.2.L r6.2.at_)
noncomputable def z2h (v2:Int) (r3:(Bs×zr)) (r5:(Bs×zr)) (l46:(List zt)) (c54:(List Int)) (c55:Int) (c56:Bs) (c57:Bs):Option (zw×zr):=
 some ((zw.mk v2 r3.1 r5.1 c56 c57 [] l46 []),(zr.mk c54 c55))
noncomputable def z2i (v2:Int) (r3:(Bs×zr)) (r5:(Bs×zr)) (r7:(Bs×zr)) (r9:(Bs×zr)) (c44:(List Int)) (c45:Int) (l46:(List zt)):Option (zw×zr):=
 (vx (zr.mk c44 c45) 40).bind fun r47=>if r47.1 then ((z8j r47.2).bind fun r50=>(z1i r50.2).bind fun r52=>z2h v2 r3 r5 l46 r52.2.L r52.2.at_ r50.1 r52.1) else (z2h v2 r3 r5 l46 r47.2.L r47.2.at_ r7.1 r9.1)
noncomputable def z2j (v2:Int) (r3:(Bs×zr)) (r5:(Bs×zr)) (r7:(Bs×zr)) (r9:(Bs×zr)) (c35:(List Int)) (c36:Int) (l37:(List zt)):Option (zw×zr):=
 (vx (zr.mk c35 c36) 8).bind fun r38=>if r38.1 then ((vm r38.2 ([[34,118,49,34],[87,47,34,118,50,34,44,32,34,118,49,34],[42],[118,49]])).bind fun r41=>if l37.length+1≤1000000000 then (z2i v2 r3 r5 r7 r9 r41.2.L r41.2.at_ (l37++([(zt.mk [105,102,45,110,111,110,101,45,109,97,116,99,104] r41.1)]))) else none) else (z2i v2 r3 r5 r7 r9 r38.2.L r38.2.at_ l37)
noncomputable def z2k (v2:Int) (r3:(Bs×zr)) (r5:(Bs×zr)) (r7:(Bs×zr)) (r9:(Bs×zr)) (c28:(List Int)) (c29:Int) (l30:(List zt)):Option (zw×zr):=
 (vx (zr.mk c28 c29) 12).bind fun r31=>if r31.1 then (if l30.length+1≤1000000000 then (z2j v2 r3 r5 r7 r9 r31.2.L r31.2.at_ (l30++([(zt.mk [97,117,116,104,111,114,105,122,97,116,105,111,110] [66,101,97,114,101,114,32,120])]))) else none) else (z2j v2 r3 r5 r7 r9 r31.2.L r31.2.at_ l30)
noncomputable def z2l (v2:Int) (r3:(Bs×zr)) (r5:(Bs×zr)) (r7:(Bs×zr)) (r9:(Bs×zr)) (c19:(List Int)) (c20:Int) (l21:(List zt)):Option (zw×zr):=
 (vx (zr.mk c19 c20) 4).bind fun r22=>if r22.1 then ((z8o r22.2).bind fun r25=>if l21.length+1≤1000000000 then (z2k v2 r3 r5 r7 r9 r25.2.L r25.2.at_ (l21++([(zt.mk [99,97,99,104,101,45,99,111,110,116,114,111,108] r25.1)]))) else none) else (z2k v2 r3 r5 r7 r9 r22.2.L r22.2.at_ l21)
noncomputable def z4r (s1:zr) (v2:Int):Option (zw×zr):=
 (vm s1 ([[71,69,84],[71,69,84],[71,69,84],[71,69,84],[72,69,65,68],[80,79,83,84]])).bind fun r3=>(vm r3.2 ([[97,46,98],[97,46,98],[65,46,66,58,56,48],[99,46,100]])).bind fun r5=>(vm r5.2 ([[47,120],[47,120],[47,120,47,46,47],[47,37,55,56],[47,121]])).bind fun r7=>(vm r7.2 ([[],[],[98,61,50,38,97,61,49],[97,61,49,38,98,61,50]])).bind fun r9=>(vx r9.2 3).bind fun r11=>if r11.1 then ((vm r11.2 ([[97,99,99,101,112,116,45,108,97,110,103,117,97,103,101],[65,99,99,101,112,116,45,76,97,110,103,117,97,103,101]])).bind fun r14=>(vm r14.2 ([[100,101],[101,110]])).bind fun r16=>if ([]:List zt).length+1≤1000000000 then (z2l v2 r3 r5 r7 r9 r16.2.L r16.2.at_ (([]:List zt)++[(zt.mk r14.1 r16.1)])) else none) else (z2l v2 r3 r5 r7 r9 r11.2.L r11.2.at_ ([]:List zt))
noncomputable def Yv (s1:zr) (l2:(List Int)):Option (Int×zr):=
 (uj s1 (l2.length:Int)).bind fun r3=>(at? l2 r3.1).bind fun (x5:Int)=>some (x5,r3.2)
noncomputable def z6b (t19:Bs) (c20:(List Int)) (c21:Int):Option (Bs×zr):=
 some (t19,(zr.mk c20 c21))
noncomputable def z19 (t11:Bs) (c12:(List Int)) (c13:Int):Option (Bs×zr):=
 (vx (zr.mk c12 c13) 20).bind fun r14=>if r14.1 then ((vm r14.2 ([[109,97,120,45,97,103,101],[110,111,45,99,97,99,104,101,61,49],[109,97,120,45,97,103,101,61,45,49],[109,97,120,45,97,103,101,61,48,49],[109,97,120,45,97,103,101,61,49,48,48,48,48,48,48,48,49],[61,49],[97,32,98],[109,97,120,45,97,103,101,61,54,48,32,44,32,44,32,110,111,45,99,97,99,104,101]])).bind fun r17=>z6b r17.1 r17.2.L r17.2.at_) else (z6b t11 r14.2.L r14.2.at_)
noncomputable def z8l (s1:zr):Option (Bs×zr):=
 (Zv s1 0 3).bind fun r2=>(kt r2.2 r2.1 [44,32] ([[109,97,120,45,97,103,101,61,54,48],[109,97,120,45,97,103,101,61,54,48],[109,97,120,45,97,103,101,61,48],[109,97,120,45,97,103,101,61,49,48],[115,45,109,97,120,97,103,101,61,51,48],[110,111,45,99,97,99,104,101],[112,117,98,108,105,99],[109,117,115,116,45,114,101,118,97,108,105,100,97,116,101],[115,116,97,108,101,45,119,104,105,108,101,45,114,101,118,97,108,105,100,97,116,101,61,50,48],[115,116,97,108,101,45,105,102,45,101,114,114,111,114,61,49,48,48],[120,61,49],[121],[77,97,120,45,65,103,101,61,57,48]])).bind fun r4=>(vx r4.2 10).bind fun r6=>if r6.1 then ((kt r6.2 2 [44] ([[110,111,45,115,116,111,114,101],[112,114,105,118,97,116,101],[109,97,120,45,97,103,101,61,54,48],[111,110,108,121,45,105,102,45,99,97,99,104,101,100],[105,109,109,117,116,97,98,108,101]])).bind fun r9=>z19 r9.1 r9.2.L r9.2.at_) else (z19 r4.1 r6.2.L r6.2.at_)
noncomputable def Zw (name1:Bs) (value2:Bs) (c3:yu):Option (yu):=
 if c3.Headers.length+1≤1000000000 then (some (yu.mk c3.Status (c3.Headers++[(zt.mk name1 value2)]) c3.Body)) else none
noncomputable def z1j (s1:zr) (low2:Int) (high3:Int):Option (Int×zr):=
 (vx s1 12).bind fun r4=>if r4.1 then ((Yv r4.2 [wr (low2 - 1),wr (high3+1),low2,high3,(-1099511627776),1099511627776]).bind fun r7=>some (r7.1,r7.2)) else ((Zv r4.2 low2 high3).bind fun r9=>some (r9.1,r9.2))
noncomputable def z2a (l85:(List zt)) (c87:Bs) (c93:(List Int)) (c94:Int) (c95:Int):Option (yu×zr):=
 some ((yu.mk c95 l85 c87),(zr.mk c93 c94))
noncomputable def z2b (c83:(List Int)) (c84:Int) (l85:(List zt)) (c86:Int) (c87:Bs):Option (yu×zr):=
 (vx (zr.mk c83 c84) 40).bind fun r88=>if r88.1 then ((z1j r88.2 100 599).bind fun r91=>z2a l85 c87 r91.2.L r91.2.at_ r91.1) else (z2a l85 c87 r88.2.L r88.2.at_ c86)
noncomputable def z2c (c67:(List Int)) (c68:Int) (l69:(List zt)) (c70:Int) (c71:Bs):Option (yu×zr):=
 (vx (zr.mk c67 c68) 30).bind fun r72=>if r72.1 then ((vm r72.2 ([[118,97,114,121],[99,97,99,104,101,45,116,97,103]])).bind fun r75=>(kt r75.2 12 [44] ([[104,49],[104,50],[104,51],[104,52],[104,53],[104,54],[104,55],[104,56],[104,57],[104,97],[104,98],[104,99]])).bind fun r77=>(vm r77.2 ([[97,32,98],[65],[],r77.1])).bind fun r79=>(Zw r75.1 r79.1 (yu.mk c70 l69 c71)).bind fun r81=>z2b r79.2.L r79.2.at_ r81.Headers r81.Status r81.Body) else (z2b r72.2.L r72.2.at_ l69 c70 c71)
noncomputable def z2d (c55:(List Int)) (c56:Int) (l57:(List zt)) (c58:Int) (c59:Bs):Option (yu×zr):=
 (vx (zr.mk c55 c56) 6).bind fun r60=>if r60.1 then ((vm r60.2 ([[53],[53,48],[120],[45,49],[49,48,48,48,48,48,48,48,49]])).bind fun r63=>(Zw [97,103,101] r63.1 (yu.mk c58 l57 c59)).bind fun r65=>z2c r63.2.L r63.2.at_ r65.Headers r65.Status r65.Body) else (z2c r60.2.L r60.2.at_ l57 c58 c59)
noncomputable def z2e (c43:(List Int)) (c44:Int) (l45:(List zt)) (c46:Int) (c47:Bs):Option (yu×zr):=
 (vx (zr.mk c43 c44) 4).bind fun r48=>if r48.1 then ((vm r48.2 ([[114,101,100],[114,101,100,44,32,98,108,117,101],[98,108,117,101,32,103,114,101,101,110],[114,101,100,32,114,101,100]])).bind fun r51=>(Zw [99,97,99,104,101,45,116,97,103] r51.1 (yu.mk c46 l45 c47)).bind fun r53=>z2d r51.2.L r51.2.at_ r53.Headers r53.Status r53.Body) else (z2d r48.2.L r48.2.at_ l45 c46 c47)
noncomputable def z2f (c29:(List Int)) (c30:Int) (l31:(List zt)) (c32:Int) (c33:Bs):Option (yu×zr):=
 (vx (zr.mk c29 c30) 2).bind fun r34=>if r34.1 then ((vm r34.2 ([[101,116,97,103],[69,84,97,103]])).bind fun r37=>(vm r37.2 ([[34,118,49,34],[87,47,34,118,50,34],[118,51]])).bind fun r39=>(Zw r37.1 r39.1 (yu.mk c32 l31 c33)).bind fun r41=>z2e r39.2.L r39.2.at_ r41.Headers r41.Status r41.Body) else (z2e r34.2.L r34.2.at_ l31 c32 c33)
noncomputable def z2g (c17:(List Int)) (c18:Int) (l19:(List zt)) (c20:Int) (c21:Bs):Option (yu×zr):=
 (vx (zr.mk c17 c18) 3).bind fun r22=>if r22.1 then ((vm r22.2 ([[97,99,99,101,112,116,45,108,97,110,103,117,97,103,101],[65,99,99,101,112,116,45,76,97,110,103,117,97,103,101,44,32,120,45,111,110,101],[42],[],[120,45,111,110,101,44,88,45,79,110,101]])).bind fun r25=>(Zw [118,97,114,121] r25.1 (yu.mk c20 l19 c21)).bind fun r27=>z2f r25.2.L r25.2.at_ r27.Headers r27.Status r27.Body) else (z2f r22.2.L r22.2.at_ l19 c20 c21)
noncomputable def z8n (s1:zr):Option (yu×zr):=
 (Yv s1 [200,200,200,200,404,304,500,204,201]).bind fun r2=>(Qw [122] 50).bind fun r4=>(vm r2.2 ([[104,101,108,108,111],[120],[],r4])).bind fun r6=>(vx r6.2 6).bind fun r8=>if !r8.1 then ((vm r8.2 ([[99,97,99,104,101,45,99,111,110,116,114,111,108],[67,97,99,104,101,45,67,111,110,116,114,111,108]])).bind fun r11=>(z8l r11.2).bind fun r13=>(Zw r11.1 r13.1 (yu.mk r2.1 ([]:List zt) r6.1)).bind fun r15=>z2g r13.2.L r13.2.at_ r15.Headers r15.Status r15.Body) else (z2g r8.2.L r8.2.at_ ([]:List zt) r2.1 r6.1)
noncomputable def z8k (s1:zr):Option (Bs×zr):=
 (Qw [97] 64).bind fun r2=>(vm s1 ([[97,46,98],[97,46,98],[65,46,66],[115,104,111,112,46,101,120,97,109,112,108,101],[97,46,98,58,56,48],[97,46,98,58,52,52,51],[97,46,98,58,56,48,56,48],[120,45,49,46,121],[49,46,50,46,51,46,52],[],[97,46,46,98],[45,97,46,98],[97,46,98,58,48],[97,46,98,58,48,56],[97,46,98,58,54,53,53,51,54],[97,95,98],[97,46,98,58],[97,32,98],r2])).bind fun r4=>some (r4.1,r4.2)
noncomputable def Qg (r2:(zw×zr)) (r4:(yu×zr)) (c30:(List Int)) (c31:Int) (c32:Bs) (c33:Int) (c34:(List Bs)) (c35:Int):Option (yc×zr):=
 some ((yc.mk (zw.mk r2.1.At r2.1.Method c32 r2.1.Path r2.1.Query r2.1.From r2.1.Headers r2.1.Body) r4.1 c33 c34 c35),(zr.mk c30 c31))
noncomputable def z4q (s1:zr):Option (yc×zr):=
 (z4r s1 0).bind fun r2=>(z8n r2.2).bind fun r4=>(Yv r4.2 [0,1000,20000]).bind fun r6=>(uj r6.2 3).bind fun r8=>(at? ([[],[[114,101,100]],[[98,108,117,101],[114,101,100]]]) r8.1).bind fun (x10:(List Bs))=>(vx r8.2 20).bind fun r12=>if r12.1 then ((uj r12.2 4).bind fun r15=>if decide (r15.1=0) then ((z1j r15.2 0 100).bind fun r18=>Qg r2 r4 r18.2.L r18.2.at_ r2.1.Host r18.1 x10 r6.1) else (if decide (r15.1=1) then ((z1j r15.2 0 100).bind fun r21=>Qg r2 r4 r21.2.L r21.2.at_ r2.1.Host r6.1 x10 r21.1) else (if decide (r15.1=2) then ((uj r15.2 3).bind fun r24=>(at? ([[[114,101,100],[98,108,117,101]],[[]],[[65]]]) r24.1).bind fun (x26:(List Bs))=>Qg r2 r4 r24.2.L r24.2.at_ r2.1.Host r6.1 x26 r6.1) else ((z8k r15.2).bind fun r28=>Qg r2 r4 r28.2.L r28.2.at_ r28.1 r6.1 x10 r6.1)))) else (Qg r2 r4 r12.2.L r12.2.at_ r2.1.Host r6.1 x10 r6.1)
noncomputable def Wg (n1:Int):Option (Bool):=
 some ((decide (0≤n1)) && (decide (n1 < 345686400000)))
noncomputable def z77 (c1:Int):Option (Bool):=
 some (((decide (97≤c1)) && (decide (c1≤122))) || ((decide (65≤c1)) && (decide (c1≤90))))
noncomputable def z39 (c1:Int):Option (Bool):=
 some ((decide (48≤c1)) && (decide (c1≤57)))
noncomputable def z3k (v14:Bool):Option (Bool):=
 some v14
noncomputable def z73 (c1:Int):Option (Bool):=
 (z77 c1).bind fun r2=>if r2 then (z3k true) else ((z39 c1).bind fun r6=>if r6 then (z3k true) else ((z06 [33,35,36,37,38,39,42,43,45,46,94,95,96,124,126] c1).bind fun r10=>z3k (decide (0≤r10))))
noncomputable def y1t (k2:Nat) (x5:UInt8):Option (Unit ⊕ (Bool)):=
 (z73 (x5.toNat:Int)).bind fun r8=>if !r8 then (some (.inr false)) else (some (.inl ()))
noncomputable def y5u (s1:Bs):Option (Bool):=
 some ((decide (s1≠[])) && (decide ((s1.length:Int)≤100)))
noncomputable def We (s1:Bs):Option (Bool):=
 if s1.length≤1000000000 then forL (fun (k:Nat) (x:UInt8) (s:Unit)=>y1t k x) (fun (s:Unit)=>y5u s1) 0 s1 () else none
noncomputable def ki (c1:Int):Option (Int):=
 some (or_ .u8 c1 32)
noncomputable def z5a (v47:Int) (v85:Int):Option ((Int×Int) ⊕ (Bool)):=
 some (.inl (v85,wr (v47+1)))
noncomputable def Yb (v14:Bs) (v46:Int) (v47:Int) (v78:Bool):Option ((Int×Int) ⊕ (Bool)):=
 if v78 then (z5a v47 48) else ((at? v14 v47).bind fun (x80:UInt8)=>if decide ((x80.toNat:Int)=95) then (if decide (v46≠48) then (some (.inr false)) else (z5a v47 95)) else (if decide (v46=95) then (some (.inr false)) else (z5a v47 33)))
noncomputable def y2r (v86:Int):Option (Bool):=
 some (decide (v86≠95))
noncomputable def y6r (v14:Bs) (v45:Bool) (v46:Int) (v47:Int):Option ((Int×Int) ⊕ (Bool)):=
 if decide (v47 < (v14.length:Int)) then ((at? v14 v47).bind fun (x50:UInt8)=>if decide (48≤(x50.toNat:Int)) then (if decide ((x50.toNat:Int)≤57) then (Yb v14 v46 v47 true) else (if v45 then ((ki (x50.toNat:Int)).bind fun r58=>if decide (97≤r58) then ((ki (x50.toNat:Int)).bind fun r62=>Yb v14 v46 v47 (decide (r62≤102))) else (Yb v14 v46 v47 false)) else (Yb v14 v46 v47 false))) else (if v45 then ((ki (x50.toNat:Int)).bind fun r70=>if decide (97≤r70) then ((ki (x50.toNat:Int)).bind fun r74=>Yb v14 v46 v47 (decide (r74≤102))) else (Yb v14 v46 v47 false)) else (Yb v14 v46 v47 false))) else (Option.map .inr (y2r v46))
noncomputable def z89 (v14:Bs) (v43:Int) (v44:Int) (v45:Bool):Option (Bool):=
 iter (fun (s:Int×Int)=>y6r v14 v45 s.1 s.2) (v43,v44)
noncomputable def Wv (v14:Bs) (v37:Bool):Option (Bool):=
 if v37 then ((v14[1]?).bind fun (x39:UInt8)=>(ki (x39.toNat:Int)).bind fun r41=>z89 v14 48 2 (decide (r41=120))) else (z89 v14 94 0 false)
noncomputable def z9a (v14:Bs):Option (Bool):=
 if decide (2≤(v14.length:Int)) then ((v14[0]?).bind fun (x17:UInt8)=>if decide ((x17.toNat:Int)=48) then ((v14[1]?).bind fun (x21:UInt8)=>(ki (x21.toNat:Int)).bind fun r23=>if decide (r23=98) then (Wv v14 true) else ((ki (x21.toNat:Int)).bind fun r27=>if decide (r27=111) then (Wv v14 true) else ((ki (x21.toNat:Int)).bind fun r31=>Wv v14 (decide (r31=120))))) else (Wv v14 false)) else (Wv v14 false)
noncomputable def z5b (v1:Bs) (v10:Bool):Option (Bool):=
 if v10 then ((sub? v1 1 (v1.length:Int)).bind fun (l12:Bs)=>z9a l12) else (z9a v1)
noncomputable def y52 (v1:Bs):Option (Bool):=
 if decide (1≤(v1.length:Int)) then ((v1[0]?).bind fun (x4:UInt8)=>if decide ((x4.toNat:Int)=45) then (z5b v1 true) else (z5b v1 (decide ((x4.toNat:Int)=43)))) else (z5b v1 false)
noncomputable def z9b (v87:Bool) (v88:Int):Option ((Bool×Int) ⊕ (Int×Int)):=
 some (.inl (v87,v88))
noncomputable def z9h (v46:Int) (v49:Int) (v53:Int) (v55:Bool) (v56:Int) (v83:Int):Option ((Bool×Int) ⊕ (Int×Int)):=
 if decide ((IntKind.wrap .u8 v46)≤v83) then (some (.inr (0,2))) else (if decide (v53≤v56) then (some (.inr (IntKind.wrap .u64 ((shl_ .u64 1 (IntKind.wrap .u64 v49)) - 1),1))) else (if ((decide ((IntKind.wrap .u64 ((IntKind.wrap .u64 (v56 * (IntKind.wrap .u64 v46)))+(IntKind.wrap .u64 v83))) < (IntKind.wrap .u64 (v56 * (IntKind.wrap .u64 v46))))) || (decide ((IntKind.wrap .u64 ((shl_ .u64 1 (IntKind.wrap .u64 v49)) - 1)) < (IntKind.wrap .u64 ((IntKind.wrap .u64 (v56 * (IntKind.wrap .u64 v46)))+(IntKind.wrap .u64 v83)))))) then (some (.inr (IntKind.wrap .u64 ((shl_ .u64 1 (IntKind.wrap .u64 v49)) - 1),1))) else (z9b v55 (IntKind.wrap .u64 ((IntKind.wrap .u64 (v56 * (IntKind.wrap .u64 v46)))+(IntKind.wrap .u64 v83))))))
noncomputable def z9g (v46:Int) (v49:Int) (v53:Int) (v55:Bool) (v56:Int) (x60:Int) (v79:Bool):Option ((Bool×Int) ⊕ (Int×Int)):=
 if v79 then ((ki x60).bind fun r81=>z9h v46 v49 v53 v55 v56 (IntKind.wrap .u8 ((IntKind.wrap .u8 (r81 - 97))+10))) else (some (.inr (0,2)))
noncomputable def Yz (v2:Int) (v46:Int) (v49:Int) (v53:Int) (k57:Nat) (x60:Int) (v55:Bool) (v56:Int):Option ((Bool×Int) ⊕ (Int×Int)):=
 if ((decide (x60=95)) && (decide (v2=0))) then (z9b true v56) else (if ((decide (48≤x60)) && (decide (x60≤57))) then (z9h v46 v49 v53 v55 v56 (IntKind.wrap .u8 (x60 - 48))) else ((ki x60).bind fun r72=>if decide (97≤r72) then ((ki x60).bind fun r76=>z9g v46 v49 v53 v55 v56 x60 (decide (r76≤122))) else (z9g v46 v49 v53 v55 v56 x60 false)))
noncomputable def z5c (v56:Int) (v66:Bool):Option (Int×Int):=
 if v66 then (some (0,2)) else (some (v56,0))
noncomputable def z5e (v1:Bs) (v55:Bool) (v56:Int):Option (Int×Int):=
 if v55 then ((y52 v1).bind fun r63=>z5c v56 (!r63)) else (z5c v56 false)
noncomputable def z5d (v1:Bs) (v2:Int) (v45:Bs) (v46:Int) (v49:Int) (v53:Int):Option (Int×Int):=
 if (0:Int)≤(IntKind.wrap .u64 v49) then (if (yn v45).length≤1000000000 then forL (fun (k:Nat) (x:Int) (s:Bool×Int)=>Yz v2 v46 v49 v53 k x s.1 s.2) (fun (s:Bool×Int)=>z5e v1 s.1 s.2) 0 (yn v45) (false,0) else none) else none
noncomputable def z9c (v1:Bs) (v2:Int) (v45:Bs) (v46:Int) (v49:Int):Option (Int×Int):=
 if decide (v46=10) then (z5d v1 v2 v45 v46 v49 1844674407370955162) else (if decide (v46=16) then (z5d v1 v2 v45 v46 v49 1152921504606846976) else (if (IntKind.wrap .u64 v46)≠0 then (z5d v1 v2 v45 v46 v49 (IntKind.wrap .u64 ((IntKind.wrap .u64 (Int.tdiv 18446744073709551615 (IntKind.wrap .u64 v46)))+1))) else none))
noncomputable def Qa (v1:Bs) (v2:Int) (v3:Int) (v45:Bs) (v46:Int):Option (Int×Int):=
 if decide (v3=0) then (z9c v1 v2 v45 v46 64) else (if ((decide (v3 < 0)) || (decide (64 < v3))) then (some (0,4)) else (z9c v1 v2 v45 v46 v3))
noncomputable def z9d (v1:Bs) (v2:Int) (v3:Int) (v39:Bool):Option (Int×Int):=
 if v39 then ((sub? v1 2 (v1.length:Int)).bind fun (l41:Bs)=>Qa v1 v2 v3 l41 16) else ((sub? v1 1 (v1.length:Int)).bind fun (l43:Bs)=>Qa v1 v2 v3 l43 8)
noncomputable def z9e (v1:Bs) (v2:Int) (v3:Int) (v28:Bool):Option (Int×Int):=
 if v28 then ((sub? v1 2 (v1.length:Int)).bind fun (l30:Bs)=>Qa v1 v2 v3 l30 8) else (if decide (3≤(v1.length:Int)) then ((v1[1]?).bind fun (x34:UInt8)=>(ki (x34.toNat:Int)).bind fun r36=>z9d v1 v2 v3 (decide (r36=120))) else (z9d v1 v2 v3 false))
noncomputable def z9f (v1:Bs) (v2:Int) (v3:Int) (v17:Bool):Option (Int×Int):=
 if v17 then ((sub? v1 2 (v1.length:Int)).bind fun (l19:Bs)=>Qa v1 v2 v3 l19 2) else (if decide (3≤(v1.length:Int)) then ((v1[1]?).bind fun (x23:UInt8)=>(ki (x23.toNat:Int)).bind fun r25=>z9e v1 v2 v3 (decide (r25=111))) else (z9e v1 v2 v3 false))
noncomputable def z4g (v1:Bs) (v2:Int) (v3:Int):Option (Int×Int):=
 if decide (v1=[]) then (some (0,2)) else (if ((decide (2≤v2)) && (decide (v2≤36))) then (Qa v1 v2 v3 v1 v2) else (if decide (v2=0) then ((v1[0]?).bind fun (x7:UInt8)=>if decide ((x7.toNat:Int)=48) then (if decide (3≤(v1.length:Int)) then ((v1[1]?).bind fun (x12:UInt8)=>(ki (x12.toNat:Int)).bind fun r14=>z9f v1 v2 v3 (decide (r14=98))) else (z9f v1 v2 v3 false)) else (Qa v1 v2 v3 v1 10)) else (some (0,3))))
noncomputable def z9i (v31:Int):Option (Int×Int):=
 some (v31,0)
noncomputable def z9j (v14:Bool) (r15:(Int×Int)) (v24:Int):Option (Int×Int):=
 if (0:Int)≤(IntKind.wrap .u64 (wr (v24 - 1))) then (if ((!v14) && (decide ((shl_ .u64 1 (IntKind.wrap .u64 (wr (v24 - 1))))≤r15.1))) then (some (IntKind.wrap .i64 (IntKind.wrap .u64 ((shl_ .u64 1 (IntKind.wrap .u64 (wr (v24 - 1)))) - 1)),1)) else (if (v14 && (decide ((shl_ .u64 1 (IntKind.wrap .u64 (wr (v24 - 1)))) < r15.1))) then (if -9223372036854775807≤IntKind.wrap .i64 (shl_ .u64 1 (IntKind.wrap .u64 (wr (v24 - 1))))∧IntKind.wrap .i64 (shl_ .u64 1 (IntKind.wrap .u64 (wr (v24 - 1))))≤9223372036854775807 then (some ((-(IntKind.wrap .i64 (shl_ .u64 1 (IntKind.wrap .u64 (wr (v24 - 1)))))),1)) else none) else (if v14 then (if -9223372036854775807≤IntKind.wrap .i64 r15.1∧IntKind.wrap .i64 r15.1≤9223372036854775807 then (z9i (-(IntKind.wrap .i64 r15.1))) else none) else (z9i (IntKind.wrap .i64 r15.1))))) else none
noncomputable def z9k (v3:Int) (v14:Bool) (r15:(Int×Int)) (v21:Bool):Option (Int×Int):=
 if v21 then (some (0,r15.2)) else (if decide (v3=0) then (z9j v14 r15 64) else (z9j v14 r15 v3))
noncomputable def z5f (v2:Int) (v3:Int) (v13:Bs) (v14:Bool):Option (Int×Int):=
 (z4g v13 v2 v3).bind fun r15=>if decide (r15.2≠0) then (if (0:Int)≤r15.2∧r15.2≤(4:Int) then (z9k v3 v14 r15 (decide (r15.2≠1))) else none) else (z9k v3 v14 r15 false)
noncomputable def y53 (v1:Bs) (v2:Int) (v3:Int):Option (Int×Int):=
 if decide (v1=[]) then (some (0,2)) else ((v1[0]?).bind fun (x5:UInt8)=>if decide ((x5.toNat:Int)=43) then ((sub? v1 1 (v1.length:Int)).bind fun (l8:Bs)=>z5f v2 v3 l8 false) else (if decide ((x5.toNat:Int)=45) then ((sub? v1 1 (v1.length:Int)).bind fun (l11:Bs)=>z5f v2 v3 l11 true) else (z5f v2 v3 v1 false)))
noncomputable def z5g (k15:Nat) (x18:Int) (v14:Int):Option (Int ⊕ (Int×Int)):=
 if decide (9 < (IntKind.wrap .u8 (x18 - 48))) then (some (.inr (0,2))) else (some (.inl (wr ((wr (v14 * 10))+(IntKind.wrap .i64 (IntKind.wrap .u8 (x18 - 48)))))))
noncomputable def z1o (v23:Int):Option (Int×Int):=
 some (v23,0)
noncomputable def z1r (v1:Bs) (v14:Int):Option (Int×Int):=
 (v1[0]?).bind fun (x19:UInt8)=>if decide ((x19.toNat:Int)=45) then (if -9223372036854775807≤v14∧v14≤9223372036854775807 then (z1o (-v14)) else none) else (z1o v14)
noncomputable def z1q (v1:Bs) (v13:Bs):Option (Int×Int):=
 if (yn v13).length≤1000000000 then forL (fun (k:Nat) (x:Int) (s:Int)=>z5g k x s) (fun (s:Int)=>z1r v1 s) 0 (yn v13) 0 else none
noncomputable def z1p (v1:Bs) (v8:Bool):Option (Int×Int):=
 if v8 then ((sub? v1 1 (v1.length:Int)).bind fun (l10:Bs)=>if decide ((l10.length:Int) < 1) then (some (0,2)) else (z1q v1 l10)) else (z1q v1 v1)
noncomputable def z1c (v1:Bs):Option (Int×Int):=
 if ((false && ((decide (0 < (v1.length:Int))) && (decide ((v1.length:Int) < 10)))) || (true && ((decide (0 < (v1.length:Int))) && (decide ((v1.length:Int) < 19))))) then ((v1[0]?).bind fun (x3:UInt8)=>if decide ((x3.toNat:Int)=45) then (z1p v1 true) else (z1p v1 (decide ((x3.toNat:Int)=43)))) else ((y53 v1 10 0).bind fun r27=>some (r27.1,r27.2))
noncomputable def Yr (s1:Bs):Option (Int×Int):=
 (z1c s1).bind fun r2=>if decide (r2.2≠0) then ((y5w [65,116,111,105] s1 0 0 r2.2).bind fun r5=>some (r2.1,r5)) else (some (r2.1,0))
noncomputable def z82 (v29:Bool):Option (Unit ⊕ (Int×Bool)):=
 if v29 then (some (.inr (0,false))) else (some (.inl ()))
noncomputable def z81 (i18:Nat) (x21:UInt8):Option (Unit ⊕ (Int×Bool)):=
 if decide ((x21.toNat:Int) < 48) then (z82 true) else (z82 (decide (57 < (x21.toNat:Int))))
noncomputable def z4z (s1:Bs):Option (Int×Bool):=
 (Yr s1).bind fun r22=>some (r22.1,decide (r22.2=0))
noncomputable def uk (s1:Bs) (r3:(Bs)) (v16:Bool):Option (Int×Bool):=
 if v16 then (some (0,false)) else (if r3.length≤1000000000 then forL (fun (k:Nat) (x:UInt8) (s:Unit)=>z81 k x) (fun (s:Unit)=>z4z s1) 0 r3 () else none)
noncomputable def z4f (s1:Bs) (most2:Int):Option (Int×Bool):=
 (z3w s1 [45]).bind fun r3=>if decide (r3=[]) then (uk s1 r3 true) else (if decide (most2 < (r3.length:Int)) then (uk s1 r3 true) else ((r3[0]?).bind fun (x9:UInt8)=>if decide ((x9.toNat:Int)=48) then (uk s1 r3 (decide (s1≠[48]))) else (uk s1 r3 false)))
noncomputable def z8b (s1:Bs):Option (Int×Bool):=
 (z4f s1 9).bind fun r2=>some (r2.1,r2.2)
noncomputable def z4e (n1:Int) (low2:Int) (high3:Int):Option (Bool):=
 some ((decide (n1 < low2)) || (decide (high3 < n1)))
noncomputable def z0y (v19:Bool):Option (Bool):=
 some v19
noncomputable def z3m (v32:Bool):Option (Unit ⊕ (Bool)):=
 if v32 then (some (.inr false)) else (some (.inl ()))
noncomputable def y5s (k2:Nat) (x5:UInt8):Option (Unit ⊕ (Bool)):=
 (z77 (x5.toNat:Int)).bind fun r22=>if !r22 then ((z39 (x5.toNat:Int)).bind fun r26=>if !r26 then (z3m (decide ((x5.toNat:Int)≠45))) else (z3m false)) else (z3m false)
noncomputable def y5t (s1:Bs):Option (Bool):=
 if decide (s1≠[]) then (if decide ((s1.length:Int)≤63) then ((s1[0]?).bind fun (x10:UInt8)=>if decide ((x10.toNat:Int)≠45) then ((at? s1 (wr ((s1.length:Int) - 1))).bind fun (x14:UInt8)=>z0y (decide ((x14.toNat:Int)≠45))) else (z0y false)) else (z0y false)) else (z0y false)
noncomputable def y5z (s1:Bs):Option (Bool):=
 if s1.length≤1000000000 then forL (fun (k:Nat) (x:UInt8) (s:Unit)=>y5s k x) (fun (s:Unit)=>y5t s1) 0 s1 () else none
noncomputable def z0z (v23:Bool):Option (Bool):=
 some v23
noncomputable def y1o (k6:Nat) (x9:Bs):Option (Unit ⊕ (Bool)):=
 (y5z x9).bind fun r26=>if !r26 then (some (.inr false)) else (some (.inl ()))
noncomputable def y1p (s1:Bs) (r2:(Bs×Bs×Bool)):Option (Bool):=
 (z8b r2.2.1).bind fun r10=>if decide ((s1.length:Int)≤255) then (if !r2.2.2 then (z0z true) else (if r10.2 then ((z4e r10.1 1 65535).bind fun r18=>z0z (!r18)) else (z0z false))) else (z0z false)
noncomputable def z1a (s1:Bs):Option (Bool):=
 (uh s1 [58]).bind fun r2=>(jk r2.1 [46]).bind fun r4=>if r4.length≤1000000000 then forL (fun (k:Nat) (x:Bs) (s:Unit)=>y1o k x) (fun (s:Unit)=>y1p s1 r2) 0 r4 () else none
noncomputable def z3l (v13:Bool):Option (Unit ⊕ (Bool)):=
 if v13 then (some (.inr false)) else (some (.inl ()))
noncomputable def y1m (low2:Int) (high3:Int) (k4:Nat) (x7:UInt8):Option (Unit ⊕ (Bool)):=
 if decide ((x7.toNat:Int) < low2) then (z3l true) else (z3l (decide (high3 < (x7.toNat:Int))))
noncomputable def y1n:Option (Bool):=
 some true
noncomputable def Ys (s1:Bs) (low2:Int) (high3:Int):Option (Bool):=
 if s1.length≤1000000000 then forL (fun (k:Nat) (x:UInt8) (s:Unit)=>y1m low2 high3 k x) (fun (s:Unit)=>y1n) 0 s1 () else none
noncomputable def Qt (v17:Bool):Option (Int):=
 if v17 then some 3 else some 0
noncomputable def z4a (s1:Bs):Option (Int):=
 if decide (1000 < (s1.length:Int)) then (Qt true) else ((y5v s1 [47]).bind fun r4=>if !r4 then (Qt true) else ((Ys s1 33 126).bind fun r8=>if !r8 then (Qt true) else ((z3y s1 [63,35]).bind fun r12=>Qt r12)))
noncomputable def xz (v12:Bool):Option (Int):=
 if v12 then some 3 else some 0
noncomputable def xi (s1:Bs):Option (Int):=
 if decide (1000 < (s1.length:Int)) then (xz true) else ((Ys s1 33 126).bind fun r4=>if !r4 then (xz true) else ((Qx s1 [35]).bind fun r8=>xz r8))
noncomputable def z66 (s14:Bs):Option (Bs):=
 some s14
noncomputable def z0m (s3:Bs) (v10:Bool):Option (Bs ⊕ (Bs)):=
 if v10 then ((sub? s3 0 (wr ((s3.length:Int) - 1))).bind fun (l12:Bs)=>some (.inl l12)) else (Option.map .inr (z66 s3))
noncomputable def z65 (c2:Int) (s3:Bs):Option (Bs ⊕ (Bs)):=
 if decide (0 < (s3.length:Int)) then ((at? s3 (wr ((s3.length:Int) - 1))).bind fun (x7:UInt8)=>z0m s3 (decide ((x7.toNat:Int)=c2))) else (z0m s3 false)
noncomputable def Qv (s1:Bs) (c2:Int):Option (Bs):=
 iter (fun (s:Bs)=>z65 c2 s) s1
noncomputable def z68 (s14:Bs):Option (Bs):=
 some s14
noncomputable def z0n (s3:Bs) (v10:Bool):Option (Bs ⊕ (Bs)):=
 if v10 then ((sub? s3 1 (s3.length:Int)).bind fun (l12:Bs)=>some (.inl l12)) else (Option.map .inr (z68 s3))
noncomputable def z67 (c2:Int) (s3:Bs):Option (Bs ⊕ (Bs)):=
 if decide (0 < (s3.length:Int)) then ((s3[0]?).bind fun (x7:UInt8)=>z0n s3 (decide ((x7.toNat:Int)=c2))) else (z0n s3 false)
noncomputable def z05 (s1:Bs) (c2:Int):Option (Bs):=
 iter (fun (s:Bs)=>z67 c2 s) s1
noncomputable def z3b (s1:Bs) (cutset2:Bs) (v9:Bool):Option (Bs):=
 if v9 then ((cutset2[0]?).bind fun (x11:UInt8)=>(Qv s1 (x11.toNat:Int)).bind fun r13=>(z05 r13 (x11.toNat:Int)).bind fun r15=>some r15) else none
noncomputable def Yq (s1:Bs) (cutset2:Bs):Option (Bs):=
 if ((decide (s1=[])) || (decide (cutset2=[]))) then some s1 else (if decide ((cutset2.length:Int)=1) then ((cutset2[0]?).bind fun (x6:UInt8)=>z3b s1 cutset2 (decide ((x6.toNat:Int) < 128))) else (z3b s1 cutset2 false))
noncomputable def z04 (v12:Bool):Option (Bool):=
 some v12
noncomputable def z1b (s1:Bs):Option (Bool):=
 if decide ((s1.length:Int)≤2000) then ((Ys s1 32 126).bind fun r4=>if r4 then ((Yq s1 [32]).bind fun r8=>z04 (decide (r8=s1))) else (z04 false)) else (z04 false)
noncomputable def y1u (k3:Nat) (x6:zt):Option (Unit ⊕ (Int)):=
 (We x6.Name).bind fun r9=>if !r9 then (some (.inr 5)) else ((z1b x6.Value).bind fun r12=>if !r12 then (some (.inr 3)) else (some (.inl ())))
noncomputable def y1v:Option (Int):=
 some 0
noncomputable def z4c (l1:(List zt)):Option (Int):=
 if decide (50 < (l1.length:Int)) then some 2 else (if l1.length≤1000000000 then forL (fun (k:Nat) (x:zt) (s:Unit)=>y1u k x) (fun (s:Unit)=>y1v) 0 l1 () else none)
noncomputable def Zo (r1:zw) (v25:Bool):Option (Int):=
 if v25 then some 3 else ((z4c r1.Headers).bind fun r27=>if decide (r27≠0) then some r27 else (if decide (20000 < (r1.Body.length:Int)) then some 2 else some 0))
noncomputable def kq (r1:zw):Option (Int):=
 (Wg r1.At).bind fun r2=>if !r2 then some 1 else ((We r1.Method).bind fun r5=>if !r5 then some 5 else ((z1a r1.Host).bind fun r8=>if !r8 then (Zo r1 true) else ((z4a r1.Path).bind fun r12=>if decide (r12≠0) then (Zo r1 true) else ((xi r1.Query).bind fun r16=>if decide (r16≠0) then (Zo r1 true) else ((z1b r1.From).bind fun r20=>Zo r1 (!r20))))))
noncomputable def Zs (a1:yu):Option (Int):=
 (z4e a1.Status 100 599).bind fun r2=>if r2 then some 1 else ((z4c a1.Headers).bind fun r5=>if decide (r5≠0) then some r5 else (if decide (20000 < (a1.Body.length:Int)) then some 2 else some 0))
noncomputable def y2d (i2:Nat) (x5:UInt8):Option (Unit ⊕ (Bool)):=
 if !(((decide (97≤(x5.toNat:Int))) && (decide ((x5.toNat:Int)≤122))) || ((decide (0 < (i2:Int))) && ((((decide (48≤(x5.toNat:Int))) && (decide ((x5.toNat:Int)≤57))) || (decide ((x5.toNat:Int)=45))) || (decide ((x5.toNat:Int)=95))))) then (some (.inr false)) else (some (.inl ()))
noncomputable def y59 (s1:Bs):Option (Bool):=
 some ((decide (s1≠[])) && (decide ((s1.length:Int)≤40)))
noncomputable def z8c (s1:Bs):Option (Bool):=
 if s1.length≤1000000000 then forL (fun (k:Nat) (x:UInt8) (s:Unit)=>y2d k x) (fun (s:Unit)=>y59 s1) 0 s1 () else none
noncomputable def z4y (v16:Bool):Option (Unit ⊕ (Int)):=
 if v16 then (some (.inr 7)) else (some (.inl ()))
noncomputable def z4x (l1:(List Bs)) (k2:Nat) (x5:Bs):Option (Unit ⊕ (Int)):=
 (z8c x5).bind fun r8=>if !r8 then (some (.inr 5)) else (if decide (0 < (k2:Int)) then ((at? l1 ((k2:Int) - 1)).bind fun (x13:Bs)=>z4y (Op.bytesLess x5 x13 || x5 == x13)) else (z4y false))
noncomputable def y2c:Option (Int):=
 some 0
noncomputable def y13 (l1:(List Bs)):Option (Int):=
 if l1.length≤1000000000 then forL (fun (k:Nat) (x:Bs) (s:Unit)=>z4x l1 k x) (fun (s:Unit)=>y2c) 0 l1 () else none
noncomputable def z74 (h1:zt) (name2:Bs):Option (Bool):=
 (y1z h1.Name name2).bind fun r3=>some r3
noncomputable def z3o (out14:(List Bs)):Option ((List Bs) ⊕ ((List Bs))):=
 some (.inl out14)
noncomputable def z00 (name2:Bs) (k4:Nat) (x7:zt) (l3:(List Bs)):Option ((List Bs) ⊕ ((List Bs))):=
 (z74 x7 name2).bind fun r10=>if r10 then (if l3.length+1≤1000000000 then (z3o (l3++[x7.Value])) else none) else (z3o l3)
noncomputable def y1q (l3:(List Bs)):Option ((List Bs)):=
 some l3
noncomputable def ux (l1:(List zt)) (name2:Bs):Option ((List Bs)):=
 if l1.length≤1000000000 then forL (fun (k:Nat) (x:zt) (s:(List Bs))=>z00 name2 k x s) (fun (s:(List Bs))=>y1q s) 0 l1 [] else none
noncomputable def Yo (out22:(List Bs)):Option ((List Bs) ⊕ ((List Bs) ⊕ ((List Bs)))):=
 some (.inl out22)
noncomputable def Ym (k12:Nat) (x15:Bs) (l11:(List Bs)):Option ((List Bs) ⊕ ((List Bs) ⊕ ((List Bs)))):=
 (Yq x15 [32]).bind fun r18=>if decide (r18≠[]) then (if l11.length+1≤1000000000 then (Yo (l11++[r18])) else none) else (Yo l11)
noncomputable def z3p (l11:(List Bs)):Option ((List Bs) ⊕ ((List Bs))):=
 some (.inl l11)
noncomputable def Yn (k3:Nat) (x6:Bs) (l2:(List Bs)):Option ((List Bs) ⊕ ((List Bs))):=
 (jk x6 [44]).bind fun r9=>if r9.length≤1000000000 then forL (fun (k:Nat) (x:Bs) (s:(List Bs))=>Ym k x s) (fun (s:(List Bs))=>z3p s) 0 r9 l2 else none
noncomputable def z3q (l2:(List Bs)):Option ((List Bs)):=
 some l2
noncomputable def Wc (values1:(List Bs)):Option ((List Bs)):=
 if values1.length≤1000000000 then forL (fun (k:Nat) (x:Bs) (s:(List Bs))=>Yn k x s) (fun (s:(List Bs))=>z3q s) 0 values1 [] else none
noncomputable def y4x (v2:Bs) (k3:Nat) (x6:Bs):Option (Unit ⊕ (Int)):=
 if decide (v2=x6) then (some (.inr (k3:Int))) else (some (.inl ()))
noncomputable def y4y:Option (Int):=
 some (-1)
noncomputable def z07 (s1:(List Bs)) (v2:Bs):Option (Int):=
 if s1.length≤1000000000 then forL (fun (k:Nat) (x:Bs) (s:Unit)=>y4x v2 k x) (fun (s:Unit)=>y4y) 0 s1 () else none
noncomputable def z7z (s1:(List Bs)) (v2:Bs):Option (Bool):=
 (z07 s1 v2).bind fun r3=>some (decide (0≤r3))
noncomputable def z4d (l1:(List Bs)):Option ((List Bs)):=
 (ui l1).bind fun r2=>(Zp r2).bind fun r4=>(z09 r4).bind fun r6=>some r6
noncomputable def z2s (k7:Nat) (l6:(List Bs)):Option ((List Bs) ⊕ ((List Bs)×Bool×Int)):=
 (l6[k7]?).bind fun (x17:Bs)=>(We x17).bind fun r19=>if !r19 then (some (.inr ([],false,9))) else ((jw x17).bind fun r22=>some (.inl (l6.set k7 r22)))
noncomputable def z0c (l6:(List Bs)):Option ((List Bs)×Bool×Int):=
 (z7z l6 [42]).bind fun r10=>if r10 then (some ([],true,0)) else ((z4d l6).bind fun r13=>if decide (10 < (r13.length:Int)) then (some ([],false,2)) else (some (r13,false,0)))
noncomputable def Zx (a1:yu):Option ((List Bs)×Bool×Int):=
 (ux a1.Headers [118,97,114,121]).bind fun r2=>(Wc r2).bind fun r4=>if r4.length≤1000000000 then rng (fun (k:Nat) (s:(List Bs))=>z2s k s) (fun (s:(List Bs))=>z0c s) r4.length 0 r4 else none
noncomputable def z2x (e1:yc) (v15:Bool):Option (Int):=
 if v15 then some 1 else (if decide (20 < (e1.Tags.length:Int)) then some 2 else ((y13 e1.Tags).bind fun r18=>if decide (r18≠0) then some r18 else ((Zx e1.Response).bind fun r21=>some r21.2.2)))
noncomputable def Zy (e1:yc):Option (Int):=
 (kq e1.Request).bind fun r2=>if decide (r2≠0) then some r2 else ((Zs e1.Response).bind fun r5=>if decide (r5≠0) then some r5 else ((Wg e1.At).bind fun r8=>if !r8 then (z2x e1 true) else ((Wg e1.Used).bind fun r12=>z2x e1 (!r12))))
noncomputable def y16 (e1:yc) (v2:Int):Option (Int):=
 (Wg v2).bind fun r3=>if !r3 then some 1 else (if decide (v2 < e1.At) then some 7 else some 0)
noncomputable def z6m (r2:(Int×Bool)) (v9:Bool):Option (Int×Bool):=
 some (r2.1,v9)
noncomputable def z4u (s1:Bs):Option (Int×Bool):=
 (z8b s1).bind fun r2=>if r2.2 then ((z4e r2.1 0 100000000).bind fun r6=>z6m r2 (!r6)) else (z6m r2 false)
noncomputable def z0d (e1:yc) (v2:Int) (n11:Int):Option (Int):=
 some (wr ((wr (v2 - e1.At))+(wr (n11 * 1000))))
noncomputable def z8v (e1:yc) (v2:Int):Option (Int):=
 (ux e1.Response.Headers [97,103,101]).bind fun r3=>if decide (0 < (r3.length:Int)) then ((r3[0]?).bind fun (x6:Bs)=>(z4u x6).bind fun r8=>if r8.2 then (z0d e1 v2 r8.1) else (z0d e1 v2 0)) else (z0d e1 v2 0)
noncomputable def z8z (e1:yc) (v2:Int):Option (Int×Int):=
 (Zy e1).bind fun r3=>if decide (r3≠0) then (some (0,r3)) else ((y16 e1 v2).bind fun r6=>if decide (r6≠0) then (some (0,r6)) else ((z8v e1 v2).bind fun r9=>some (r9,0)))
noncomputable def y17 (e1:yc) (r2:zw):Option (Int):=
 (Zy e1).bind fun r3=>if decide (r3≠0) then some r3 else ((kq r2).bind fun r6=>some r6)
noncomputable def z4b (s1:Bs):Option (Bs×Int):=
 (z1a s1).bind fun r2=>if !r2 then (some ([],3)) else ((jw s1).bind fun r5=>(uh r5 [58]).bind fun r7=>if (((decide (r7.2.1=[])) || (decide (r7.2.1=[56,48]))) || (decide (r7.2.1=[52,52,51]))) then (some (r7.1,0)) else (if r7.1.length+[58].length≤1000000000 then (if (r7.1++[58]).length+r7.2.1.length≤1000000000 then (some (((r7.1++[58])++r7.2.1),0)) else none) else none))
noncomputable def Za (l1:(List Int)) (c2:Int):Option (Int×(List Int)):=
 if l1.length+1≤1000000000 then (some (0,(l1++[c2]))) else none
noncomputable def z38 (c1:Int):Option (Bool):=
 (z39 c1).bind fun r2=>some ((r2 || ((decide (97≤c1)) && (decide (c1≤102)))) || ((decide (65≤c1)) && (decide (c1≤70))))
noncomputable def z0x (v17:Bool):Option (Bool):=
 some v17
noncomputable def Qy (s1:Bs) (v2:Int):Option (Bool):=
 if decide ((wr (v2+2)) < (s1.length:Int)) then ((at? s1 (wr (v2+1))).bind fun (x5:UInt8)=>(z38 (x5.toNat:Int)).bind fun r7=>if r7 then ((at? s1 (wr (v2+2))).bind fun (x11:UInt8)=>(z38 (x11.toNat:Int)).bind fun r13=>z0x r13) else (z0x false)) else (z0x false)
noncomputable def z32 (s1:Bs) (base2:Int) (bitSize3:Int):Option (Int×Int):=
 (z4g s1 base2 bitSize3).bind fun r4=>if decide (r4.2≠0) then ((y5w [80,97,114,115,101,85,105,110,116] s1 base2 bitSize3 r4.2).bind fun r7=>some (r4.1,r7)) else (some (r4.1,0))
noncomputable def z35 (s1:Bs) (v2:Int):Option (Int):=
 (sub? s1 (wr (v2+1)) (wr (v2+3))).bind fun (l3:Bs)=>(z32 l3 16 8).bind fun r5=>if decide (r5.2≠0) then some 0 else (some (IntKind.wrap .u8 r5.1))
noncomputable def z3n (v14:Bool):Option (Bool):=
 some v14
noncomputable def Zr (c1:Int):Option (Bool):=
 (z77 c1).bind fun r2=>if r2 then (z3n true) else ((z39 c1).bind fun r6=>if r6 then (z3n true) else ((z06 [45,46,95,126] c1).bind fun r10=>z3n (decide (0≤r10))))
noncomputable def Zq (c1:Int):Option (Bs):=
 (at? [48,49,50,51,52,53,54,55,56,57,65,66,67,68,69,70] (shr_ .u8 c1 4)).bind fun (x2:UInt8)=>(at? [48,49,50,51,52,53,54,55,56,57,65,66,67,68,69,70] (and_ .u8 c1 15)).bind fun (x4:UInt8)=>some (strN [37,(x2.toNat:Int),(x4.toNat:Int)])
noncomputable def z30 (l1:(List Int)) (s2:Bs):Option (Int×Int×(List Int)):=
 if l1.length+s2.length≤1000000000 then (some ((s2.length:Int),0,(l1++yn s2))) else none
noncomputable def z0w (i26:Int) (l27:(List Int)):Option ((Int×(List Int)) ⊕ (Bs×Bool)):=
 some (.inl (wr (i26+1),l27))
noncomputable def z3j (i2:Int) (l25:(List Int)):Option ((Int×(List Int)) ⊕ (Bs×Bool)):=
 z0w (wr (i2+2)) l25
noncomputable def z7m (l28:(List Int)):Option (Bs×Bool):=
 if byR l28=true then (some ((strN l28),true)) else none
noncomputable def ko (s1:Bs) (i2:Int) (l3:(List Int)):Option ((Int×(List Int)) ⊕ (Bs×Bool)):=
 if decide (i2 < (s1.length:Int)) then ((at? s1 i2).bind fun (x6:UInt8)=>if decide ((x6.toNat:Int)≠37) then ((Za l3 (x6.toNat:Int)).bind fun r9=>z0w i2 r9.2) else ((Qy s1 i2).bind fun r11=>if !r11 then (some (.inr ([],false))) else ((z35 s1 i2).bind fun r14=>(Zr r14).bind fun r16=>if r16 then ((Za l3 r14).bind fun r19=>z3j i2 r19.2) else ((Zq r14).bind fun r21=>(z30 l3 r21).bind fun r23=>z3j i2 r23.2.2)))) else (Option.map .inr (z7m l3))
noncomputable def z71 (s1:Bs):Option (Bs×Bool):=
 iter (fun (s:Int×(List Int))=>ko s1 s.1 s.2) (0,([]:List Int))
noncomputable def z03 (out29:(List Bs)):Option ((List Bs) ⊕ (Bs×Int)):=
 some (.inl out29)
noncomputable def z3t (r10:((List Bs))) (k13:Nat) (out26:(List Bs)):Option ((List Bs) ⊕ (Bs×Int)):=
 if decide ((k13:Int)=(wr ((r10.length:Int) - 1))) then (if out26.length+1≤1000000000 then (z03 (out26++([[]]))) else none) else (z03 out26)
noncomputable def z3s (r10:((List Bs))) (k13:Nat) (x16:Bs) (l12:(List Bs)):Option ((List Bs) ⊕ (Bs×Int)):=
 if decide (x16=[46]) then (z3t r10 k13 l12) else (if decide (x16=[46,46]) then (if (0:Int)≤(max (wr ((l12.length:Int) - 1)) 0)∧(max (wr ((l12.length:Int) - 1)) 0)≤(l12.length:Int) then (z3t r10 k13 (l12.take (max (wr ((l12.length:Int) - 1)) 0).toNat)) else none) else (if l12.length+1≤1000000000 then (z03 (l12++[x16])) else none))
noncomputable def z7p (l12:(List Bs)):Option (Bs×Int):=
 (jl l12 [47]).bind fun r17=>if [47].length+r17.length≤1000000000 then (some (([47]++r17),0)) else none
noncomputable def z79 (s1:Bs):Option (Bs×Int):=
 (z4a s1).bind fun r2=>if decide (r2≠0) then (some ([],r2)) else ((z71 s1).bind fun r5=>if !r5.2 then (some ([],9)) else ((sub? r5.1 1 (r5.1.length:Int)).bind fun (l8:Bs)=>(jk l8 [47]).bind fun r10=>if r10.length≤1000000000 then forL (fun (k:Nat) (x:Bs) (s:(List Bs))=>z3s r10 k x s) (fun (s:(List Bs))=>z7p s) 0 r10 [] else none))
noncomputable def Yl (i22:Int) (l23:(List Int)):Option ((Int×(List Int)) ⊕ (Bs×Bool)):=
 some (.inl (wr (i22+1),l23))
noncomputable def z7n (l24:(List Int)):Option (Bs×Bool):=
 if byR l24=true then (some ((strN l24),true)) else none
noncomputable def jv (s1:Bs) (plus2:Bool) (i3:Int) (l4:(List Int)):Option ((Int×(List Int)) ⊕ (Bs×Bool)):=
 if decide (i3 < (s1.length:Int)) then ((at? s1 i3).bind fun (x7:UInt8)=>if ((decide ((x7.toNat:Int)=43)) && plus2) then ((Za l4 32).bind fun r10=>Yl i3 r10.2) else (if decide ((x7.toNat:Int)≠37) then ((Za l4 (x7.toNat:Int)).bind fun r13=>Yl i3 r13.2) else ((Qy s1 i3).bind fun r15=>if !r15 then (some (.inr ([],false))) else ((z35 s1 i3).bind fun r18=>(Za l4 r18).bind fun r20=>Yl (wr (i3+2)) r20.2)))) else (Option.map .inr (z7n l4))
noncomputable def Qz (s1:Bs) (plus2:Bool):Option (Bs×Bool):=
 iter (fun (s:Int×(List Int))=>jv s1 plus2 s.1 s.2) (0,([]:List Int))
noncomputable def y41 (p1:zo→Option (Bool)) (k2:Nat) (x5:zo):Option (Unit ⊕ (Int)):=
 (p1 x5).bind fun r8=>if r8 then (some (.inr (k2:Int))) else (some (.inl ()))
noncomputable def y42:Option (Int):=
 some (-1)
noncomputable def y5y (s1:(List zo)) (p1:zo→Option (Bool)):Option (Int):=
 if s1.length≤1000000000 then forL (fun (k:Nat) (x:zo) (s:Unit)=>y41 p1 k x) (fun (s:Unit)=>y42) 0 s1 () else none
noncomputable def z7d (j6:Int) (i17:Int) (s18:(List zo)):Option ((Int×Int×(List zo)) ⊕ ((List zo))):=
 some (.inl (i17,wr (j6+1),s18))
noncomputable def y08 (i19:Int) (s20:(List zo)):Option ((List zo)):=
 if (0:Int)≤i19∧i19 < (s20.length:Int) then (if (0:Int)≤i19∧i19≤((s20.take i19.toNat++List.replicate (s20.length - i19.toNat) (zo.mk [] [])).length:Int) then (some ((s20.take i19.toNat++List.replicate (s20.length - i19.toNat) (zo.mk [] [])).take i19.toNat)) else none) else none
noncomputable def y44 (p1:zo→Option (Bool)) (i5:Int) (j6:Int) (l7:(List zo)):Option ((Int×Int×(List zo)) ⊕ ((List zo))):=
 if decide (j6 < (l7.length:Int)) then ((at? l7 j6).bind fun (x10:zo)=>(p1 x10).bind fun r12=>if !r12 then ((at? l7 i5).bind fun (x15:zo)=>z7d j6 (wr (i5+1)) (l7.set i5.toNat x10)) else (z7d j6 i5 l7)) else (Option.map .inr (y08 i5 l7))
noncomputable def z34 (s1:(List zo)) (p1:zo→Option (Bool)):Option ((List zo)):=
 (y5y s1 p1).bind fun r2=>if decide (r2=(-1)) then some s1 else (iter (fun (s:Int×Int×(List zo))=>y44 p1 s.1 s.2.1 s.2.2) (r2,wr (r2+1),s1))
noncomputable def z3r (out24:(List zo)):Option ((List zo) ⊕ ((List zo)×Int)):=
 some (.inl out24)
noncomputable def z01 (k8:Nat) (x11:Bs) (l7:(List zo)):Option ((List zo) ⊕ ((List zo)×Int)):=
 if decide (x11=[]) then (z3r l7) else ((uh x11 [61]).bind fun r16=>(Qz r16.1 true).bind fun r18=>(Qz r16.2.1 true).bind fun r20=>if ((!r18.2) || (!r20.2)) then (some (.inr ([],9))) else (if l7.length+1≤1000000000 then (z3r (l7++[(zo.mk r18.1 r20.1)])) else none))
noncomputable def Qu (l7:(List zo)):Option ((List zo)×Int):=
 if decide (100 < (l7.length:Int)) then (some ([],2)) else (some (l7,0))
noncomputable def Wd (s1:Bs):Option ((List zo)×Int):=
 (xi s1).bind fun r2=>if decide (r2≠0) then (some ([],r2)) else ((jk s1 [38]).bind fun r5=>if r5.length≤1000000000 then forL (fun (k:Nat) (x:Bs) (s:(List zo))=>z01 k x s) (fun (s:(List zo))=>Qu s) 0 r5 [] else none)
noncomputable def z78 (p1:zo):Option (Bool):=
 some ((p1.Name == []) && ((p1.Value == []) && true))
noncomputable def z7t (x6:Int) (n7:Int):Option (Int):=
 (at? [0,1,2,2,3,3,3,3,4,4,4,4,4,4,4,4,5,5,5,5,5,5,5,5,5,5,5,5,5,5,5,5,6,6,6,6,6,6,6,6,6,6,6,6,6,6,6,6,6,6,6,6,6,6,6,6,6,6,6,6,6,6,6,6,7,7,7,7,7,7,7,7,7,7,7,7,7,7,7,7,7,7,7,7,7,7,7,7,7,7,7,7,7,7,7,7,7,7,7,7,7,7,7,7,7,7,7,7,7,7,7,7,7,7,7,7,7,7,7,7,7,7,7,7,7,7,7,7,8,8,8,8,8,8,8,8,8,8,8,8,8,8,8,8,8,8,8,8,8,8,8,8,8,8,8,8,8,8,8,8,8,8,8,8,8,8,8,8,8,8,8,8,8,8,8,8,8,8,8,8,8,8,8,8,8,8,8,8,8,8,8,8,8,8,8,8,8,8,8,8,8,8,8,8,8,8,8,8,8,8,8,8,8,8,8,8,8,8,8,8,8,8,8,8,8,8,8,8,8,8,8,8,8,8,8,8,8,8,8,8,8,8,8,8,8,8,8,8,8,8,8,8,8,8,8,8] (IntKind.wrap .u8 x6)).bind fun (x8:UInt8)=>some (wr (n7+(IntKind.wrap .i64 (x8.toNat:Int))))
noncomputable def z7u (x3:Int) (n4:Int):Option (Int):=
 if decide (256≤x3) then (z7t (shr_ .u32 x3 8) (wr (n4+8))) else (z7t x3 n4)
noncomputable def y51 (x1:Int):Option (Int):=
 if decide (65536≤x1) then (z7u (shr_ .u32 x1 16) 16) else (z7u x1 0)
noncomputable def z7q (x9:Int) (n10:Int):Option (Int):=
 (at? [0,1,2,2,3,3,3,3,4,4,4,4,4,4,4,4,5,5,5,5,5,5,5,5,5,5,5,5,5,5,5,5,6,6,6,6,6,6,6,6,6,6,6,6,6,6,6,6,6,6,6,6,6,6,6,6,6,6,6,6,6,6,6,6,7,7,7,7,7,7,7,7,7,7,7,7,7,7,7,7,7,7,7,7,7,7,7,7,7,7,7,7,7,7,7,7,7,7,7,7,7,7,7,7,7,7,7,7,7,7,7,7,7,7,7,7,7,7,7,7,7,7,7,7,7,7,7,7,8,8,8,8,8,8,8,8,8,8,8,8,8,8,8,8,8,8,8,8,8,8,8,8,8,8,8,8,8,8,8,8,8,8,8,8,8,8,8,8,8,8,8,8,8,8,8,8,8,8,8,8,8,8,8,8,8,8,8,8,8,8,8,8,8,8,8,8,8,8,8,8,8,8,8,8,8,8,8,8,8,8,8,8,8,8,8,8,8,8,8,8,8,8,8,8,8,8,8,8,8,8,8,8,8,8,8,8,8,8,8,8,8,8,8,8,8,8,8,8,8,8,8,8,8,8,8,8] (IntKind.wrap .u8 x9)).bind fun (x11:UInt8)=>some (wr (n10+(IntKind.wrap .i64 (x11.toNat:Int))))
noncomputable def z7r (x6:Int) (n7:Int):Option (Int):=
 if decide (256≤x6) then (z7q (shr_ .u64 x6 8) (wr (n7+8))) else (z7q x6 n7)
noncomputable def z7s (x3:Int) (n4:Int):Option (Int):=
 if decide (65536≤x3) then (z7r (shr_ .u64 x3 16) (wr (n4+16))) else (z7r x3 n4)
noncomputable def y50 (x1:Int):Option (Int):=
 if decide (4294967296≤x1) then (z7s (shr_ .u64 x1 32) 32) else (z7s x1 0)
noncomputable def z8a (x1:Int):Option (Int):=
 if false then ((y51 (IntKind.wrap .u32 x1)).bind fun r3=>some r3) else ((y50 x1).bind fun r5=>some r5)
noncomputable def y06 (i4:Int) (data28:(List zo)):Option ((Int×(List zo)) ⊕ ((List zo))):=
 some (.inl (wr (i4+1),data28))
noncomputable def z7c (i4:Int) (j8:Int) (l9:(List zo)) (v20:Bool):Option ((Int×(List zo)) ⊕ ((Int×(List zo)) ⊕ ((List zo)))):=
 if v20 then ((at? l9 (wr (j8 - 1))).bind fun (x22:zo)=>(at? l9 j8).bind fun (x24:zo)=>(at? (l9.set j8.toNat x22) (wr (j8 - 1))).bind fun (x26:zo)=>some (.inl (wr (j8 - 1),((l9.set j8.toNat x22).set ((wr (j8 - 1)).toNat) x24)))) else (Option.map .inr (y06 i4 l9))
noncomputable def y4v (a2:Int) (p3:zo→zo→Option (Int)) (i4:Int) (j8:Int) (l9:(List zo)):Option ((Int×(List zo)) ⊕ ((Int×(List zo)) ⊕ ((List zo)))):=
 if decide (a2 < j8) then ((at? l9 j8).bind fun (x13:zo)=>(at? l9 (wr (j8 - 1))).bind fun (x15:zo)=>(p3 x13 x15).bind fun r17=>z7c i4 j8 l9 (decide (r17 < 0))) else (z7c i4 j8 l9 false)
noncomputable def y4w (a2:Int) (b3:Int) (p3:zo→zo→Option (Int)) (i4:Int) (l5:(List zo)):Option ((Int×(List zo)) ⊕ ((List zo))):=
 if decide (i4 < b3) then (iter (fun (s:Int×(List zo))=>y4v a2 p3 i4 s.1 s.2) (i4,l5)) else (some (.inr l5))
noncomputable def z7v (data1:(List zo)) (a2:Int) (b3:Int) (p3:zo→zo→Option (Int)):Option ((List zo)):=
 iter (fun (s:Int×(List zo))=>y4w a2 b3 p3 s.1 s.2) (wr (a2+1),data1)
noncomputable def y4u (v1:(List zo)) (p4:zo→zo→Option (Int)) (v5:Int) (v6:Int) (v7:Int) (v8:Bool) (v9:Bool):Option ((Int×Int×Int×Bool×Bool) ⊕ ((List zo))):=
 if decide ((wr (v6 - v5))≤12) then ((z7v v1 v5 v6 p4).bind fun r12=>if r12.length=v1.length then (some (.inr r12)) else none) else (if decide (v7=0) then none else none)
noncomputable def y12 (v1:(List zo)) (v2:Int) (v3:Int) (v4:Int) (p4:zo→zo→Option (Int)):Option ((List zo)):=
 iter (fun (s:Int×Int×Int×Bool×Bool)=>y4u v1 p4 s.1 s.2.1 s.2.2.1 s.2.2.2.1 s.2.2.2.2) (v2,v3,v4,true,true)
noncomputable def z7x (x1:(List zo)) (p1:zo→zo→Option (Int)):Option ((List zo)):=
 (z8a (IntKind.wrap .u64 (x1.length:Int))).bind fun r2=>(y12 x1 0 (x1.length:Int) r2 p1).bind fun r4=>if r4.length=x1.length then some r4 else none
noncomputable def xj (a1:zo) (b2:zo):Option (Int):=
 if decide (a1.Name≠b2.Name) then ((z3z a1.Name b2.Name).bind fun r4=>some r4) else ((z3z a1.Value b2.Value).bind fun r6=>some r6)
noncomputable def z0v (l22:(List Int)):Option ((List Int) ⊕ (Bs)):=
 some (.inl l22)
noncomputable def z0u (k3:Nat) (x6:UInt8) (l2:(List Int)):Option ((List Int) ⊕ (Bs)):=
 if decide ((x6.toNat:Int)=32) then ((Za l2 43).bind fun r11=>z0v r11.2) else ((Zr (x6.toNat:Int)).bind fun r13=>if r13 then ((Za l2 (x6.toNat:Int)).bind fun r16=>z0v r16.2) else ((Zq (x6.toNat:Int)).bind fun r18=>(z30 l2 r18).bind fun r20=>z0v r20.2.2))
noncomputable def z3i (l2:(List Int)):Option (Bs):=
 if byR l2=true then (some (strN l2)) else none
noncomputable def z36 (s1:Bs):Option (Bs):=
 if s1.length≤1000000000 then forL (fun (k:Nat) (x:UInt8) (s:(List Int))=>z0u k x s) (fun (s:(List Int))=>z3i s) 0 s1 ([]:List Int) else none
noncomputable def z7o (k4:Nat) (x7:zo) (l3:(List Bs)):Option ((List Bs) ⊕ (Bs×Int)):=
 if ((x7.Name == []) && ((x7.Value == []) && true)) then (some (.inr ([],3))) else ((z36 x7.Name).bind fun r14=>if r14.length+[61].length≤1000000000 then ((z36 x7.Value).bind fun r17=>if (r14++[61]).length+r17.length≤1000000000 then (if l3.length+1≤1000000000 then (some (.inl (l3++([((r14++[61])++r17)])))) else none) else none) else none)
noncomputable def y1r (l3:(List Bs)):Option (Bs×Int):=
 (jl l3 [38]).bind fun r8=>if decide (1000 < (r8.length:Int)) then (some ([],2)) else (some (r8,0))
noncomputable def Wb (l1:(List zo)):Option (Bs×Int):=
 if decide (100 < (l1.length:Int)) then (some ([],2)) else (if l1.length≤1000000000 then forL (fun (k:Nat) (x:zo) (s:(List Bs))=>z7o k x s) (fun (s:(List Bs))=>y1r s) 0 l1 [] else none)
noncomputable def z02 (k26:Nat) (l25:(List zt)):Option ((List zt) ⊕ (zw×Int)):=
 (l25[k26]?).bind fun (x30:zt)=>(jw x30.Name).bind fun r32=>some (.inl (l25.set k26 (zt.mk r32 x30.Value)))
noncomputable def y1s (v1:zw) (r5:(Bs×Int)) (r7:(Bs×Int)) (r18:(Bs×Int)) (r21:(Bs)) (l25:(List zt)):Option (zw×Int):=
 some ((zw.mk v1.At r21 r5.1 r7.1 r18.1 v1.From l25 v1.Body),0)
noncomputable def xk (v1:zw):Option (zw×Int):=
 (kq v1).bind fun r2=>if decide (r2≠0) then (some ((zw.mk 0 [] [] [] [] [] [] []),r2)) else ((z4b v1.Host).bind fun r5=>(z79 v1.Path).bind fun r7=>if decide (r7.2≠0) then (some ((zw.mk 0 [] [] [] [] [] [] []),r7.2)) else ((Wd v1.Query).bind fun r10=>if decide (r10.2≠0) then (some ((zw.mk 0 [] [] [] [] [] [] []),r10.2)) else ((z34 r10.1 (fun (a0:zo)=>z78 a0)).bind fun r13=>(z7x r13 (fun (a0:zo) (a1:zo)=>xj a0 a1)).bind fun r15=>if r15.length=r13.length then ((Wb r15).bind fun r18=>if decide (r18.2≠0) then (some ((zw.mk 0 [] [] [] [] [] [] []),r18.2)) else ((z3x v1.Method).bind fun r21=>(ui v1.Headers).bind fun r23=>if r23.length≤1000000000 then rng (fun (k:Nat) (s:(List zt))=>z02 k s) (fun (s:(List zt))=>y1s v1 r5 r7 r18 r21 s) r23.length 0 r23 else none)) else none)))
noncomputable def z6n (r3:(zw×Int)) (e8:Int) (c9:Int) (c10:Bs) (c11:Bs) (c12:Bs) (c13:Bs) (c14:Bs) (c15:(List zt)) (c16:Bs):Option (zw×zw×Int):=
 some (r3.1,(zw.mk c9 c10 c11 c12 c13 c14 c15 c16),e8)
noncomputable def z8t (a1:zw) (b2:zw):Option (zw×zw×Int):=
 (xk a1).bind fun r3=>if decide (r3.2=0) then ((xk b2).bind fun r6=>z6n r3 r6.2 r6.1.At r6.1.Method r6.1.Host r6.1.Path r6.1.Query r6.1.From r6.1.Headers r6.1.Body) else (z6n r3 r3.2 0 [] [] [] [] [] ([]:(List zt)) [])
noncomputable def y4z (p1:Bs→Option (Bool)) (k2:Nat) (x5:Bs):Option (Unit ⊕ (Int)):=
 (p1 x5).bind fun r8=>if r8 then (some (.inr (k2:Int))) else (some (.inl ()))
noncomputable def y40:Option (Int):=
 some (-1)
noncomputable def y5x (s1:(List Bs)) (p1:Bs→Option (Bool)):Option (Int):=
 if s1.length≤1000000000 then forL (fun (k:Nat) (x:Bs) (s:Unit)=>y4z p1 k x) (fun (s:Unit)=>y40) 0 s1 () else none
noncomputable def z08 (s1:(List Bs)) (p1:Bs→Option (Bool)):Option (Bool):=
 (y5x s1 p1).bind fun r2=>some (decide (0≤r2))
noncomputable def y07 (s2:(List Bs)) (k4:Nat) (x7:Bs):Option (Unit ⊕ (Bool)):=
 (s2[k4]?).bind fun (x10:Bs)=>if decide (x7≠x10) then (some (.inr false)) else (some (.inl ()))
noncomputable def y43:Option (Bool):=
 some true
noncomputable def z33 (s1:(List Bs)) (s2:(List Bs)):Option (Bool):=
 if decide ((s1.length:Int)≠(s2.length:Int)) then some false else (if s1.length≤1000000000 then forL (fun (k:Nat) (x:Bs) (s:Unit)=>y07 s2 k x) (fun (s:Unit)=>y43) 0 s1 () else none)
noncomputable def z1l (n1:Bs) (c2:zw) (c3:zw):Option (Bool):=
 (ux c2.Headers n1).bind fun r4=>(ux c3.Headers n1).bind fun r6=>(z33 r4 r6).bind fun r8=>some (!r8)
noncomputable def Wr (own1:zw) (a2:yu) (r3:zw):Option (Bool):=
 if ((((decide (own1.Host≠r3.Host)) || (decide (own1.Path≠r3.Path))) || (decide (own1.Query≠r3.Query))) || ((decide (own1.Method≠r3.Method)) && (!((decide (own1.Method=[71,69,84])) && (decide (r3.Method=[72,69,65,68])))))) then some false else ((Zx a2).bind fun r5=>if (r5.2.1 || (decide (r5.2.2≠0))) then some false else ((z08 r5.1 (fun (a0:Bs)=>z1l a0 own1 r3)).bind fun r8=>some (!r8)))
noncomputable def z8w (e1:yc) (r2:zw):Option (Bool×Int):=
 (y17 e1 r2).bind fun r3=>if decide (r3≠0) then (some (false,r3)) else ((z8t e1.Request r2).bind fun r6=>if decide (r6.2.2≠0) then (some (false,r6.2.2)) else ((Wr r6.1 e1.Response r6.2.1).bind fun r9=>some (r9,0)))
noncomputable def y3o (k3:Nat) (x6:zt) (n2:Int):Option (Int ⊕ (Int)):=
 some (.inl (wr (n2+(wr ((x6.Name.length:Int)+(x6.Value.length:Int))))))
noncomputable def y3p (n2:Int):Option (Int):=
 some n2
noncomputable def z8r (e1:yc):Option (Int):=
 if e1.Response.Headers.length≤1000000000 then forL (fun (k:Nat) (x:zt) (s:Int)=>y3o k x s) (fun (s:Int)=>y3p s) 0 e1.Response.Headers (wr ((wr ((wr ((wr ((e1.Request.Host.length:Int)+(e1.Request.Path.length:Int)))+(e1.Request.Query.length:Int)))+(e1.Response.Body.length:Int)))+100)) else none
noncomputable def z8x (e1:yc):Option (Int×Int):=
 (Zy e1).bind fun r2=>if decide (r2≠0) then (some (0,r2)) else ((z8r e1).bind fun r5=>some (r5,0))
noncomputable def kr (n1:Int) (low2:Int) (high3:Int):Option (Bool):=
 some ((decide (low2≤n1)) && (decide (n1≤high3)))
noncomputable def z1h (v1:Int):Option (Bool):=
 (kr v1 0 345686399999).bind fun r2=>some r2
noncomputable def y23 (some2:Bs) (k3:Nat) (x6:UInt8):Option (Unit ⊕ (Bool)):=
 (z06 some2 (x6.toNat:Int)).bind fun r9=>if decide (r9 < 0) then (some (.inr false)) else (some (.inl ()))
noncomputable def y61:Option (Bool):=
 some true
noncomputable def uy (s1:Bs) (some2:Bs):Option (Bool):=
 if s1.length≤1000000000 then forL (fun (k:Nat) (x:UInt8) (s:Unit)=>y23 some2 k x) (fun (s:Unit)=>y61) 0 s1 () else none
noncomputable def z5o (v9:Bool):Option (Bool):=
 some v9
noncomputable def z1e (s1:Bs):Option (Bool):=
 (kr (s1.length:Int) 1 100).bind fun r2=>if r2 then ((uy s1 [97,98,99,100,101,102,103,104,105,106,107,108,109,110,111,112,113,114,115,116,117,118,119,120,121,122,65,66,67,68,69,70,71,72,73,74,75,76,77,78,79,80,81,82,83,84,85,86,87,88,89,90,48,49,50,51,52,53,54,55,56,57,33,35,36,37,38,39,42,43,45,46,94,95,96,124,126]).bind fun r6=>z5o r6) else (z5o false)
noncomputable def z5s (r15:(Int×Int)) (v22:Bool):Option (Int×Bool):=
 some (r15.1,v22)
noncomputable def Zd (s1:Bs) (v13:Bool):Option (Int×Bool):=
 if v13 then (some (0,false)) else ((Yr s1).bind fun r15=>if decide (r15.2=0) then ((y10 r15.1).bind fun r19=>z5s r15 (decide (r19=s1))) else (z5s r15 false))
noncomputable def Wm (s1:Bs) (most2:Int):Option (Int×Bool):=
 (z3w s1 [45]).bind fun r3=>if decide (r3=[]) then (Zd s1 true) else (if decide (most2 < (r3.length:Int)) then (Zd s1 true) else ((uy r3 [48,49,50,51,52,53,54,55,56,57]).bind fun r9=>Zd s1 (!r9)))
noncomputable def z9o (v30:Bs):Option (Bs×Int):=
 some (v30,0)
noncomputable def Qe (v45:Bool):Option (Unit ⊕ (Bs×Int)):=
 if v45 then (some (.inr ([],3))) else (some (.inl ()))
noncomputable def z5t (k21:Nat) (x24:Bs):Option (Unit ⊕ (Bs×Int)):=
 (kr (x24.length:Int) 1 63).bind fun r33=>if !r33 then (Qe true) else ((uy x24 [97,98,99,100,101,102,103,104,105,106,107,108,109,110,111,112,113,114,115,116,117,118,119,120,121,122,65,66,67,68,69,70,71,72,73,74,75,76,77,78,79,80,81,82,83,84,85,86,87,88,89,90,48,49,50,51,52,53,54,55,56,57,45]).bind fun r37=>if !r37 then (Qe true) else ((Yq x24 [45]).bind fun r41=>Qe (decide (r41≠x24))))
noncomputable def z5u (r2:(Bs×Bs×Bool)) (r4:(Int×Bool)):Option (Bs×Int):=
 (jw r2.1).bind fun r25=>if ((r2.2.2 && (decide (r4.1≠80))) && (decide (r4.1≠443))) then (if [58].length+r2.2.1.length≤1000000000 then (if r25.length+([58]++r2.2.1).length≤1000000000 then (z9o (r25++([58]++r2.2.1))) else none) else none) else (z9o r25)
noncomputable def Qf (r2:(Bs×Bs×Bool)) (r4:(Int×Bool)) (v17:Bool):Option (Bs×Int):=
 if v17 then (some ([],3)) else ((jk r2.1 [46]).bind fun r19=>if r19.length≤1000000000 then forL (fun (k:Nat) (x:Bs) (s:Unit)=>z5t k x) (fun (s:Unit)=>z5u r2 r4) 0 r19 () else none)
noncomputable def Wn (v1:Bs):Option (Bs×Int):=
 (uh v1 [58]).bind fun r2=>(Wm r2.2.1 5).bind fun r4=>if decide (255 < (v1.length:Int)) then (Qf r2 r4 true) else (if r2.2.2 then (if !r4.2 then (Qf r2 r4 true) else ((kr r4.1 1 65535).bind fun r12=>Qf r2 r4 (!r12))) else (Qf r2 r4 false))
noncomputable def z5i (v12:Bool):Option (Unit ⊕ (Bool)):=
 if v12 then (some (.inr false)) else (some (.inl ()))
noncomputable def y20 (low2:Int) (k3:Nat) (x6:UInt8):Option (Unit ⊕ (Bool)):=
 if decide ((x6.toNat:Int) < low2) then (z5i true) else (z5i (decide (126 < (x6.toNat:Int))))
noncomputable def y60:Option (Bool):=
 some true
noncomputable def Yt (s1:Bs) (low2:Int):Option (Bool):=
 if s1.length≤1000000000 then forL (fun (k:Nat) (x:UInt8) (s:Unit)=>y20 low2 k x) (fun (s:Unit)=>y60) 0 s1 () else none
noncomputable def Wy (v19:Bool):Option (Bool):=
 some v19
noncomputable def z4i (s1:Bs):Option (Bool):=
 (kr (s1.length:Int) 1 1000).bind fun r2=>if r2 then ((s1[0]?).bind fun (x6:UInt8)=>if decide ((x6.toNat:Int)=47) then ((Yt s1 33).bind fun r10=>if r10 then ((z3y s1 [63,35]).bind fun r14=>Wy (!r14)) else (Wy false)) else (Wy false)) else (Wy false)
noncomputable def Zc (v12:Bool):Option (Bool):=
 some v12
noncomputable def xl (s1:Bs):Option (Bool):=
 if decide ((s1.length:Int)≤1000) then ((Yt s1 33).bind fun r4=>if r4 then ((Qx s1 [35]).bind fun r8=>Zc (!r8)) else (Zc false)) else (Zc false)
noncomputable def z5z (v12:Bool):Option (Bool):=
 some v12
noncomputable def z8i (s1:Bs):Option (Bool):=
 if decide ((s1.length:Int)≤2000) then ((Yt s1 32).bind fun r4=>if r4 then ((Yq s1 [32]).bind fun r8=>z5z (decide (r8=s1))) else (z5z false)) else (z5z false)
noncomputable def y29 (k3:Nat) (x6:zt):Option (Unit ⊕ (Int)):=
 (z1e x6.Name).bind fun r9=>if !r9 then (some (.inr 5)) else ((z8i x6.Value).bind fun r12=>if !r12 then (some (.inr 3)) else (some (.inl ())))
noncomputable def y3a:Option (Int):=
 some 0
noncomputable def z4n (l1:(List zt)):Option (Int):=
 if decide (50 < (l1.length:Int)) then some 2 else (if l1.length≤1000000000 then forL (fun (k:Nat) (x:zt) (s:Unit)=>y29 k x) (fun (s:Unit)=>y3a) 0 l1 () else none)
noncomputable def z1y (r1:zw) (v23:Bool):Option (Int):=
 if v23 then some 3 else ((z4n r1.Headers).bind fun r25=>if decide (r25≠0) then some r25 else (if decide (20000 < (r1.Body.length:Int)) then some 2 else some 0))
noncomputable def Yu (r1:zw):Option (Int):=
 (z1h r1.At).bind fun r2=>if !r2 then some 1 else ((z1e r1.Method).bind fun r5=>if !r5 then some 5 else ((Wn r1.Host).bind fun r8=>if decide (r8.2≠0) then some r8.2 else ((z4i r1.Path).bind fun r11=>if !r11 then (z1y r1 true) else ((xl r1.Query).bind fun r15=>if !r15 then (z1y r1 true) else ((z8i r1.From).bind fun r19=>z1y r1 (!r19))))))
noncomputable def z4k (a1:yu):Option (Int):=
 (kr a1.Status 100 599).bind fun r2=>if !r2 then some 1 else ((z4n a1.Headers).bind fun r5=>if decide (r5≠0) then some r5 else (if decide (20000 < (a1.Body.length:Int)) then some 2 else some 0))
noncomputable def z8e (a1:Bs) (b2:Bs):Option (Bool):=
 (jw a1).bind fun r3=>(jw b2).bind fun r5=>some (decide (r3=r5))
noncomputable def z5n (out14:(List Bs)):Option ((List Bs) ⊕ ((List Bs))):=
 some (.inl out14)
noncomputable def z1x (name2:Bs) (k4:Nat) (x7:zt) (l3:(List Bs)):Option ((List Bs) ⊕ ((List Bs))):=
 (z8e x7.Name name2).bind fun r10=>if r10 then (if l3.length+1≤1000000000 then (z5n (l3++[x7.Value])) else none) else (z5n l3)
noncomputable def y24 (l3:(List Bs)):Option ((List Bs)):=
 some l3
noncomputable def Zt (l1:(List zt)) (name2:Bs):Option ((List Bs)):=
 if l1.length≤1000000000 then forL (fun (k:Nat) (x:zt) (s:(List Bs))=>z1x name2 k x s) (fun (s:(List Bs))=>y24 s) 0 l1 [] else none
noncomputable def z5k (out17:(List Bs)):Option ((List Bs) ⊕ ((List Bs))):=
 some (.inl out17)
noncomputable def z1u (k7:Nat) (x10:Bs) (l6:(List Bs)):Option ((List Bs) ⊕ ((List Bs))):=
 (Yq x10 [32]).bind fun r13=>if decide (r13≠[]) then (if l6.length+1≤1000000000 then (z5k (l6++[r13])) else none) else (z5k l6)
noncomputable def y22 (l6:(List Bs)):Option ((List Bs)):=
 some l6
noncomputable def z8d (values1:(List Bs)):Option ((List Bs)):=
 (jl values1 [44]).bind fun r2=>(jk r2 [44]).bind fun r4=>if r4.length≤1000000000 then forL (fun (k:Nat) (x:Bs) (s:(List Bs))=>z1u k x s) (fun (s:(List Bs))=>y22 s) 0 r4 [] else none
noncomputable def z1w (k8:Nat) (x11:Bs) (all6:Bool) (l7:(List Bs)):Option ((Bool×(List Bs)) ⊕ ((List Bs)×Bool×Int)):=
 (z1e x11).bind fun r20=>if !r20 then (some (.inr ([],false,9))) else ((jw x11).bind fun r23=>if l7.length+1≤1000000000 then (some (.inl ((all6 || (decide (x11=[42]))),(l7++[r23])))) else none)
noncomputable def z5m (all6:Bool) (l7:(List Bs)):Option ((List Bs)×Bool×Int):=
 if all6 then (some ([],true,0)) else ((Zp l7).bind fun r13=>(z09 r13).bind fun r15=>if decide (10 < (r15.length:Int)) then (some ([],false,2)) else (some (r15,false,0)))
noncomputable def z4j (a1:yu):Option ((List Bs)×Bool×Int):=
 (Zt a1.Headers [118,97,114,121]).bind fun r2=>(z8d r2).bind fun r4=>if r4.length≤1000000000 then forL (fun (k:Nat) (x:Bs) (s:Bool×(List Bs))=>z1w k x s.1 s.2) (fun (s:Bool×(List Bs))=>z5m s.1 s.2) 0 r4 (false,[]) else none
noncomputable def z14 (v16:Bool):Option (Bool):=
 some v16
noncomputable def z8h (s1:Bs):Option (Bool):=
 (kr (s1.length:Int) 1 40).bind fun r2=>if r2 then ((sub? s1 0 1).bind fun (l6:Bs)=>(uy l6 [97,98,99,100,101,102,103,104,105,106,107,108,109,110,111,112,113,114,115,116,117,118,119,120,121,122]).bind fun r8=>if r8 then ((uy s1 [97,98,99,100,101,102,103,104,105,106,107,108,109,110,111,112,113,114,115,116,117,118,119,120,121,122,48,49,50,51,52,53,54,55,56,57,45,95]).bind fun r12=>z14 r12) else (z14 false)) else (z14 false)
noncomputable def z52 (v36:Bool):Option (Unit ⊕ (Int)):=
 if v36 then (some (.inr 7)) else (some (.inl ()))
noncomputable def z50 (v1:yc) (k20:Nat) (x23:Bs):Option (Unit ⊕ (Int)):=
 (z8h x23).bind fun r28=>if !r28 then (some (.inr 5)) else (if decide (0 < (k20:Int)) then ((at? v1.Tags ((k20:Int) - 1)).bind fun (x33:Bs)=>z52 (Op.bytesLess x23 x33 || x23 == x33)) else (z52 false))
noncomputable def z54 (v1:yc):Option (Int):=
 (z4j v1.Response).bind fun r24=>some r24.2.2
noncomputable def z0a (v1:yc) (v17:Bool):Option (Int):=
 if v17 then some 1 else (if decide (20 < (v1.Tags.length:Int)) then some 2 else (if v1.Tags.length≤1000000000 then forL (fun (k:Nat) (x:Bs) (s:Unit)=>z50 v1 k x) (fun (s:Unit)=>z54 v1) 0 v1.Tags () else none))
noncomputable def z9q (k6:Nat) (x9:Int):Option (Unit ⊕ (Int)):=
 if decide (x9≠0) then (some (.inr x9)) else (some (.inl ()))
noncomputable def z55 (v1:yc):Option (Int):=
 (z1h v1.At).bind fun r10=>if !r10 then (z0a v1 true) else ((z1h v1.Used).bind fun r14=>z0a v1 (!r14))
noncomputable def Wp (v1:yc):Option (Int):=
 (Yu v1.Request).bind fun r2=>(z4k v1.Response).bind fun r4=>if [r2,r4].length≤1000000000 then forL (fun (k:Nat) (x:Int) (s:Unit)=>z9q k x) (fun (s:Unit)=>z55 v1) 0 [r2,r4] () else none
noncomputable def z4s (is1:Bool) (e2:Int):Option (Int):=
 if is1 then some e2 else some 0
noncomputable def z8p (v1:Int):Option (Int):=
 (z1h v1).bind fun r2=>(z4s (!r2) 1).bind fun r4=>some r4
noncomputable def y3b (k2:Nat) (x5:Int):Option (Unit ⊕ (Int)):=
 if decide (x5≠0) then (some (.inr x5)) else (some (.inl ()))
noncomputable def y63:Option (Int):=
 some 0
noncomputable def Wq (l1:(List Int)):Option (Int):=
 if l1.length≤1000000000 then forL (fun (k:Nat) (x:Int) (s:Unit)=>y3b k x) (fun (s:Unit)=>y63) 0 l1 () else none
noncomputable def z0b (e1:yc) (v2:Int) (n17:Int):Option (Int):=
 some (wr ((wr (v2 - e1.At))+(wr (1000 * n17))))
noncomputable def z56 (e1:yc) (v2:Int) (r8:(Int×Bool)) (v15:Bool):Option (Int):=
 if v15 then (z0b e1 v2 r8.1) else (z0b e1 v2 0)
noncomputable def z4p (e1:yc) (v2:Int):Option (Int):=
 (Zt e1.Response.Headers [97,103,101]).bind fun r3=>if decide (0 < (r3.length:Int)) then ((r3[0]?).bind fun (x6:Bs)=>(Wm x6 9).bind fun r8=>if r8.2 then ((kr r8.1 0 100000000).bind fun r12=>z56 e1 v2 r8 r12) else (z56 e1 v2 r8 false)) else (z0b e1 v2 0)
noncomputable def y21 (out21:(List wm)):Option ((List wm)×Bool):=
 some (out21,true)
noncomputable def ku (s2:Bs) (l3:(List wm)):Option ((Bs×(List wm)) ⊕ ((List wm)×Bool)):=
 if decide (s2≠[]) then ((s2[0]?).bind fun (x6:UInt8)=>if decide ((x6.toNat:Int)≠37) then (if l3.length+1≤1000000000 then ((sub? s2 1 (s2.length:Int)).bind fun (l10:Bs)=>some (.inl (l10,(l3++[(wm.mk (x6.toNat:Int) true)])))) else none) else (if decide ((s2.length:Int) < 3) then (some (.inr ([],false))) else ((sub? s2 1 3).bind fun (l13:Bs)=>(z32 l13 16 8).bind fun r15=>if decide (r15.2≠0) then (some (.inr ([],false))) else (if l3.length+1≤1000000000 then ((sub? s2 3 (s2.length:Int)).bind fun (l19:Bs)=>some (.inl (l19,(l3++[(wm.mk (IntKind.wrap .u8 r15.1) false)])))) else none)))) else (Option.map .inr (y21 l3))
noncomputable def Wh (s1:Bs):Option ((List wm)×Bool):=
 iter (fun (s:Bs×(List wm))=>ku s.1 s.2) (s1,[])
noncomputable def y14 (n1:Int):Option (Bs):=
 (sub? [48,49,50,51,52,53,54,55,56,57,65,66,67,68,69,70] n1 (IntKind.wrap .u8 (n1+1))).bind fun (l2:Bs)=>some l2
noncomputable def Wi (c1:Int):Option (Bs):=
 (y14 (shr_ .u8 c1 4)).bind fun r2=>if [37].length+r2.length≤1000000000 then ((y14 (and_ .u8 c1 15)).bind fun r5=>if ([37]++r2).length+r5.length≤1000000000 then (some (([37]++r2)++r5)) else none) else none
noncomputable def z12 (c17:Int) (x22:Bs) (l28:(List Bs)):Option ((Int×(List Bs)) ⊕ (Bs×Int)):=
 if decide (x22=[46,46]) then (some (.inl (wr (c17+1),l28))) else (some (.inl (c17,l28)))
noncomputable def Wz (r15:((List Bs))) (k21:Nat) (x22:Bs) (c17:Int) (l18:(List Bs)):Option ((Int×(List Bs)) ⊕ (Bs×Int)):=
 if ((decide (x22=[46])) || (decide (x22=[46,46]))) then (if decide ((k21:Int)=(wr ((r15.length:Int) - 1))) then (if l18.length+1≤1000000000 then (z12 c17 x22 (l18++([[]]))) else none) else (z12 c17 x22 l18)) else (if decide (0 < c17) then (some (.inl (wr (c17 - 1),l18))) else (if l18.length+1≤1000000000 then (some (.inl (c17,(l18++[x22])))) else none))
noncomputable def z5r (c17:Int) (l18:(List Bs)):Option (Bs×Int):=
 (z7y l18).bind fun r32=>(jl r32 [47]).bind fun r34=>if [47].length+r34.length≤1000000000 then (some (([47]++r34),0)) else none
noncomputable def z11 (v53:Bs):Option (Bs ⊕ (Bs×Int)):=
 some (.inl v53)
noncomputable def Qd (v8:Bs) (x12:wm) (v47:Bool):Option (Bs ⊕ (Bs×Int)):=
 if v47 then (if v8.length+(strN [x12.c_]).length≤1000000000 then (z11 (v8++(strN [x12.c_]))) else none) else ((Wi x12.c_).bind fun r50=>if v8.length+r50.length≤1000000000 then (z11 (v8++r50)) else none)
noncomputable def z10 (k9:Nat) (x12:wm) (v8:Bs):Option (Bs ⊕ (Bs×Int)):=
 if x12.plain_ then (Qd v8 x12 true) else ((uy (encL (IntKind.wrap .i32 x12.c_)) [97,98,99,100,101,102,103,104,105,106,107,108,109,110,111,112,113,114,115,116,117,118,119,120,121,122,65,66,67,68,69,70,71,72,73,74,75,76,77,78,79,80,81,82,83,84,85,86,87,88,89,90,48,49,50,51,52,53,54,55,56,57,45,46,95,126]).bind fun r41=>if r41 then (Qd v8 x12 (decide (x12.c_ < 128))) else (Qd v8 x12 false))
noncomputable def z9n (v8:Bs):Option (Bs×Int):=
 (sub? v8 1 (v8.length:Int)).bind fun (l13:Bs)=>(jk l13 [47]).bind fun r15=>if r15.length≤1000000000 then back (fun (k:Nat) (x:Bs) (s:Int×(List Bs))=>Wz r15 k x s.1 s.2) (fun (s:Int×(List Bs))=>z5r s.1 s.2) r15 r15.length (0,([]:List Bs)) else none
noncomputable def z8g (v1:Bs):Option (Bs×Int):=
 (z4i v1).bind fun r2=>if !r2 then (some ([],3)) else ((Wh v1).bind fun r5=>if !r5.2 then (some ([],9)) else (if r5.1.length≤1000000000 then forL (fun (k:Nat) (x:wm) (s:Bs)=>z10 k x s) (fun (s:Bs)=>z9n s) 0 r5.1 [] else none))
noncomputable def z1v (k5:Nat) (x8:wm) (l4:(List Int)):Option ((List Int) ⊕ (Bs)):=
 if l4.length+1≤1000000000 then (some (.inl (l4++[x8.c_]))) else none
noncomputable def z5l (l4:(List Int)):Option (Bs):=
 some (strN l4)
noncomputable def z1d (s1:Bs):Option (Bs):=
 (Wh s1).bind fun r2=>if r2.1.length≤1000000000 then forL (fun (k:Nat) (x:wm) (s:(List Int))=>z1v k x s) (fun (s:(List Int))=>z5l s) 0 r2.1 [] else none
noncomputable def z5p (out28:(List zo)):Option ((List zo) ⊕ ((List zo)×Int)):=
 some (.inl out28)
noncomputable def z1z (k11:Nat) (x14:Bs) (l10:(List zo)):Option ((List zo) ⊕ ((List zo)×Int)):=
 if decide (x14=[]) then (z5p l10) else ((y1y x14 [43] [37,50,48]).bind fun r19=>(uh r19 [61]).bind fun r21=>(z1d r21.1).bind fun r23=>(z1d r21.2.1).bind fun r25=>if l10.length+1≤1000000000 then (z5p (l10++[(zo.mk r23 r25)])) else none)
noncomputable def z5q (l10:(List zo)):Option ((List zo)×Int):=
 if decide (100 < (l10.length:Int)) then (some ([],2)) else (some (l10,0))
noncomputable def z1f (s1:Bs):Option ((List zo)×Int):=
 (xl s1).bind fun r2=>if !r2 then (some ([],3)) else ((Wh s1).bind fun r5=>if !r5.2 then (some ([],9)) else ((jk s1 [38]).bind fun r8=>if r8.length≤1000000000 then forL (fun (k:Nat) (x:Bs) (s:(List zo))=>z1z k x s) (fun (s:(List zo))=>z5q s) 0 r8 [] else none))
noncomputable def z1g (p1:zo):Option (Bool):=
 if p1.Name.length+p1.Value.length≤1000000000 then (some (decide ((p1.Name++p1.Value)=[]))) else none
noncomputable def y03 (blockSize16:Int):Option (Int ⊕ ((List zo))):=
 some (.inl (wr (blockSize16 * 2)))
noncomputable def y04 (n2:Int) (blockSize16:Int) (a23:Int):Option (Int ⊕ ((List zo))):=
 if decide ((wr (a23+blockSize16)) < n2) then none else (y03 blockSize16)
noncomputable def y4r (n2:Int) (blockSize16:Int) (a19:Int) (b20:Int):Option ((Int×Int) ⊕ (Int ⊕ ((List zo)))):=
 if decide (b20≤n2) then none else (Option.map .inr (y04 n2 blockSize16 a19))
noncomputable def y4s (n2:Int) (r13:((List zo))) (blockSize16:Int):Option (Int ⊕ ((List zo))):=
 if decide (blockSize16 < n2) then (iter (fun (s:Int×Int)=>y4r n2 blockSize16 s.1 s.2) (0,wr (2 * blockSize16))) else (some (.inr r13))
noncomputable def y05 (n2:Int) (p2:zo→zo→Option (Int)) (a11:Int) (data12:(List zo)):Option ((List zo)):=
 (z7v data12 a11 n2 p2).bind fun r13=>if r13.length=data12.length then (iter (fun (s:Int)=>y4s n2 r13 s) 20) else none
noncomputable def y4t (n2:Int) (p2:zo→zo→Option (Int)) (a3:Int) (b4:Int) (l5:(List zo)):Option ((Int×Int×(List zo)) ⊕ ((List zo))):=
 if decide (b4≤n2) then ((z7v l5 a3 b4 p2).bind fun r8=>if r8.length=l5.length then (some (.inl (b4,wr (b4+20),r8))) else none) else (Option.map .inr (y05 n2 p2 a3 l5))
noncomputable def y11 (data1:(List zo)) (n2:Int) (p2:zo→zo→Option (Int)):Option ((List zo)):=
 iter (fun (s:Int×Int×(List zo))=>y4t n2 p2 s.1 s.2.1 s.2.2) (0,20,data1)
noncomputable def z7w (x1:(List zo)) (p1:zo→zo→Option (Int)):Option ((List zo)):=
 (y11 x1 (x1.length:Int) p1).bind fun r2=>if r2.length=x1.length then some r2 else none
noncomputable def z4m (a1:zo) (b2:zo):Option (Int):=
 if decide (a1.Name≠b2.Name) then ((z3z a1.Name b2.Name).bind fun r4=>some r4) else ((z3z a1.Value b2.Value).bind fun r6=>some r6)
noncomputable def z1t (out18:(List Int)):Option ((List Int) ⊕ (Bs)):=
 some (.inl out18)
noncomputable def z1s (k3:Nat) (x6:UInt8) (l2:(List Int)):Option ((List Int) ⊕ (Bs)):=
 if decide ((x6.toNat:Int)=32) then (if l2.length+1≤1000000000 then (z1t (l2++[43])) else none) else ((z06 [97,98,99,100,101,102,103,104,105,106,107,108,109,110,111,112,113,114,115,116,117,118,119,120,121,122,65,66,67,68,69,70,71,72,73,74,75,76,77,78,79,80,81,82,83,84,85,86,87,88,89,90,48,49,50,51,52,53,54,55,56,57,45,46,95,126] (x6.toNat:Int)).bind fun r11=>if decide (0≤r11) then (if l2.length+1≤1000000000 then (z1t (l2++[(x6.toNat:Int)])) else none) else ((Wi (x6.toNat:Int)).bind fun r15=>if l2.length+r15.length≤1000000000 then (z1t (l2++yn r15)) else none))
noncomputable def z5j (l2:(List Int)):Option (Bs):=
 some (strN l2)
noncomputable def z4h (s1:Bs):Option (Bs):=
 if s1.length≤1000000000 then forL (fun (k:Nat) (x:UInt8) (s:(List Int))=>z1s k x s) (fun (s:(List Int))=>z5j s) 0 s1 [] else none
noncomputable def y27 (k4:Nat) (x7:zo) (l3:(List Bs)):Option ((List Bs) ⊕ (Bs×Int)):=
 if ((decide (x7.Name=[])) && (decide (x7.Value=[]))) then (some (.inr ([],3))) else ((z4h x7.Name).bind fun r14=>if r14.length+[61].length≤1000000000 then ((z4h x7.Value).bind fun r17=>if (r14++[61]).length+r17.length≤1000000000 then (if l3.length+1≤1000000000 then (some (.inl (l3++([((r14++[61])++r17)])))) else none) else none) else none)
noncomputable def y62 (l3:(List Bs)):Option (Bs×Int):=
 (jl l3 [38]).bind fun r8=>if decide (1000 < (r8.length:Int)) then (some ([],2)) else (some (r8,0))
noncomputable def z4l (l1:(List zo)):Option (Bs×Int):=
 if decide (100 < (l1.length:Int)) then (some ([],2)) else (if l1.length≤1000000000 then forL (fun (k:Nat) (x:zo) (s:(List Bs))=>y27 k x s) (fun (s:(List Bs))=>y62 s) 0 l1 [] else none)
noncomputable def z13 (k24:Nat) (x27:zt) (l23:(List zt)):Option ((List zt) ⊕ (zw×Int)):=
 (jw x27.Name).bind fun r30=>if l23.length+1≤1000000000 then (some (.inl (l23++[(zt.mk r30 x27.Value)]))) else none
noncomputable def y28 (v1:zw) (r5:(Bs×Int)) (r7:(Bs×Int)) (r18:(Bs×Int)) (r21:(Bs)) (l23:(List zt)):Option (zw×Int):=
 some ((zw.mk v1.At r21 r5.1 r7.1 r18.1 v1.From l23 v1.Body),0)
noncomputable def Zu (v1:zw):Option (zw×Int):=
 (Yu v1).bind fun r2=>if decide (r2≠0) then (some ((zw.mk 0 [] [] [] [] [] [] []),r2)) else ((Wn v1.Host).bind fun r5=>(z8g v1.Path).bind fun r7=>if decide (r7.2≠0) then (some ((zw.mk 0 [] [] [] [] [] [] []),r7.2)) else ((z1f v1.Query).bind fun r10=>if decide (r10.2≠0) then (some ((zw.mk 0 [] [] [] [] [] [] []),r10.2)) else ((z34 r10.1 (fun (a0:zo)=>z1g a0)).bind fun r13=>(z7w r13 (fun (a0:zo) (a1:zo)=>z4m a0 a1)).bind fun r15=>if r15.length=r13.length then ((z4l r15).bind fun r18=>if decide (r18.2≠0) then (some ((zw.mk 0 [] [] [] [] [] [] []),r18.2)) else ((z3x v1.Method).bind fun r21=>if v1.Headers.length≤1000000000 then forL (fun (k:Nat) (x:zt) (s:(List zt))=>z13 k x s) (fun (s:(List zt))=>y28 v1 r5 r7 r18 r21 s) 0 v1.Headers ([]:List zt) else none)) else none)))
noncomputable def Wj (n1:Bs) (c2:zw) (c3:zw):Option (Bool):=
 (Zt c2.Headers n1).bind fun r4=>(Zt c3.Headers n1).bind fun r6=>(z33 r4 r6).bind fun r8=>some (!r8)
noncomputable def Wl (v1:yc) (v2:zw):Option (Bool×Int):=
 (Zu v1.Request).bind fun r3=>if decide (r3.2≠0) then (some (false,r3.2)) else ((Zu v2).bind fun r6=>if decide (r6.2≠0) then (some (false,r6.2)) else ((z4j v1.Response).bind fun r9=>if ((((r9.2.1 || (decide (r3.1.Host≠r6.1.Host))) || (decide (r3.1.Path≠r6.1.Path))) || (decide (r3.1.Query≠r6.1.Query))) || ((decide (r3.1.Method≠r6.1.Method)) && ((decide (r3.1.Method≠[71,69,84])) || (decide (r6.1.Method≠[72,69,65,68]))))) then (some (false,0)) else ((z08 r9.1 (fun (a0:Bs)=>Wj a0 r3.1 r6.1)).bind fun r12=>some (!r12,0))))
noncomputable def y25 (k3:Nat) (x6:zt) (n2:Int):Option (Int ⊕ (Int)):=
 some (.inl (wr (n2+(wr ((x6.Name.length:Int)+(x6.Value.length:Int))))))
noncomputable def y26 (n2:Int):Option (Int):=
 some n2
noncomputable def z8f (e1:yc):Option (Int):=
 if e1.Response.Headers.length≤1000000000 then forL (fun (k:Nat) (x:zt) (s:Int)=>y25 k x s) (fun (s:Int)=>y26 s) 0 e1.Response.Headers (wr ((wr ((wr ((wr (100+(e1.Request.Host.length:Int)))+(e1.Request.Path.length:Int)))+(e1.Request.Query.length:Int)))+(e1.Response.Body.length:Int))) else none
noncomputable def z6p (v41:Int):Option (Int ⊕ (Int×Int)):=
 some (.inl v41)
noncomputable def z2v (v19:Int) (k20:Nat) (v39:Bool):Option (Int ⊕ (Int×Int)):=
 if v39 then (z6p (k20:Int)) else (z6p v19)
noncomputable def z6o (v1:(List yc)) (l11:(List zw)) (r16:(zw×Int)) (k20:Nat) (x23:yc) (v19:Int):Option (Int ⊕ (Int×Int)):=
 (l11[k20]?).bind fun (x27:zw)=>(Wr x27 x23.Response r16.1).bind fun r29=>if r29 then (if decide (v19 < 0) then (z2v v19 k20 true) else ((at? v1 v19).bind fun (x35:yc)=>z2v v19 k20 (decide (x35.At≤x23.At)))) else (z2v v19 k20 false)
noncomputable def z9v (v19:Int):Option (Int×Int):=
 if decide (v19 < 0) then (some (0,8)) else (some (v19,0))
noncomputable def z2u (k12:Nat) (x15:yc) (l11:(List zw)):Option ((List zw) ⊕ (Int×Int)):=
 (xk x15.Request).bind fun r44=>if decide (r44.2≠0) then (some (.inr (0,r44.2))) else (if l11.length+1≤1000000000 then (some (.inl (l11++[r44.1]))) else none)
noncomputable def z2w (v1:(List yc)) (v2:zw) (l11:(List zw)):Option (Int×Int):=
 (xk v2).bind fun r16=>if decide (r16.2≠0) then (some (0,r16.2)) else (if v1.length≤1000000000 then forL (fun (k:Nat) (x:yc) (s:Int)=>z6o v1 l11 r16 k x s) (fun (s:Int)=>z9v s) 0 v1 (-1) else none)
noncomputable def z9u (k4:Nat) (x7:yc):Option (Unit ⊕ (Int×Int)):=
 (Zy x7).bind fun r50=>if decide (r50≠0) then (some (.inr (0,r50))) else (some (.inl ()))
noncomputable def z6q (v1:(List yc)) (v2:zw):Option (Int×Int):=
 (kq v2).bind fun r8=>if decide (r8≠0) then (some (0,r8)) else (if v1.length≤1000000000 then forL (fun (k:Nat) (x:yc) (s:(List zw))=>z2u k x s) (fun (s:(List zw))=>z2w v1 v2 s) 0 v1 [] else none)
noncomputable def z8y (v1:(List yc)) (v2:zw):Option (Int×Int):=
 if decide (1000 < (v1.length:Int)) then (some (0,2)) else (if v1.length≤1000000000 then forL (fun (k:Nat) (x:yc) (s:Unit)=>z9u k x) (fun (s:Unit)=>z6q v1 v2) 0 v1 () else none)
noncomputable def z5x (v29:Int):Option (Int ⊕ (Int×Int)):=
 some (.inl v29)
noncomputable def z15 (v9:Int) (k10:Nat) (v27:Bool):Option (Int ⊕ (Int×Int)):=
 if v27 then (z5x (k10:Int)) else (z5x v9)
noncomputable def z5v (v1:(List yc)) (v2:zw) (k10:Nat) (x13:yc) (v9:Int):Option (Int ⊕ (Int×Int)):=
 (Wl x13 v2).bind fun r17=>if r17.1 then (if decide (v9 < 0) then (z15 v9 k10 true) else ((at? v1 v9).bind fun (x23:yc)=>z15 v9 k10 (decide (x23.At≤x13.At)))) else (z15 v9 k10 false)
noncomputable def z9p (v9:Int):Option (Int×Int):=
 if decide (v9 < 0) then (some (0,8)) else (some (v9,0))
noncomputable def z5w (v2:zw) (r3:((List yc))) (k6:Nat):Option (Unit ⊕ (Int×Int)):=
 ((r3++([(yc.mk v2 (yu.mk 0 [] []) 0 [] 0)]))[k6]?).bind fun (x31:yc)=>(Zu x31.Request).bind fun r33=>if decide (r33.2≠0) then (some (.inr (0,r33.2))) else (some (.inl ()))
noncomputable def z5y (v1:(List yc)) (v2:zw):Option (Int×Int):=
 if v1.length≤1000000000 then forL (fun (k:Nat) (x:yc) (s:Int)=>z5v v1 v2 k x s) (fun (s:Int)=>z9p s) 0 v1 (-1) else none
noncomputable def z4o (v1:(List yc)) (v2:zw):Option (Int×Int):=
 (ui v1).bind fun r3=>if r3.length+1≤1000000000 then (if (r3++([(yc.mk v2 (yu.mk 0 [] []) 0 [] 0)])).length≤1000000000 then rng (fun (k:Nat) (s:Unit)=>z5w v2 r3 k) (fun (s:Unit)=>z5y v1 v2) ((r3++([(yc.mk v2 (yu.mk 0 [] []) 0 [] 0)])).length) 0 () else none) else none
noncomputable def z8s  : Option ((List Bs)×(List Int)):=
 some ([[109,97,120,45,97,103,101],[115,45,109,97,120,97,103,101],[115,116,97,108,101,45,119,104,105,108,101,45,114,101,118,97,108,105,100,97,116,101],[115,116,97,108,101,45,105,102,45,101,114,114,111,114],[109,97,120,45,115,116,97,108,101],[109,105,110,45,102,114,101,115,104]],([6,7,8,9,10,11]:List Int))
noncomputable def y18  : Option ((List Bs)×(List Int)):=
 some ([[110,111,45,115,116,111,114,101],[110,111,45,99,97,99,104,101],[112,114,105,118,97,116,101],[112,117,98,108,105,99],[109,117,115,116,45,114,101,118,97,108,105,100,97,116,101],[111,110,108,121,45,105,102,45,99,97,99,104,101,100]],([0,1,2,3,4,5]:List Int))
noncomputable def z6l (r3:(Bs×Bs×Bool)) (c41:Bool) (c42:Bool) (c43:Bool) (c44:Bool) (c45:Bool) (c46:Bool) (c47:Int) (c48:Int) (c49:Int) (c50:Int) (c51:Int) (c52:Int):Option (Bool×qh):=
 some (r3.2.2,(qh.mk c41 c42 c43 c44 c45 c46 c47 c48 c49 c50 c51 c52))
noncomputable def z6k (s1:qh) (r3:(Bs×Bs×Bool)) (r5:(Int×Bool)) (r22:((List Bs)×(List Int))) (r24:(Int)) (v34:Bool):Option (Bool×qh):=
 if v34 then ((at? r22.2 r24).bind fun (x36:Int)=>if Qi x36=true then ((some (y00 s1 x36 r5.1)).bind fun (c39:qh)=>z6l r3 c39.NoStore c39.NoCache c39.Private c39.Public c39.Must c39.Only c39.MaxAge c39.Shared c39.Stale c39.OnError c39.MaxStale c39.MinFresh) else none) else (z6l r3 s1.NoStore s1.NoCache s1.Private s1.Public s1.Must s1.Only s1.MaxAge s1.Shared s1.Stale s1.OnError s1.MaxStale s1.MinFresh)
noncomputable def z4t (s1:qh) (v2:Bs):Option (Bool×qh):=
 (uh v2 [61]).bind fun r3=>(z4u r3.2.1).bind fun r5=>(We r3.1).bind fun r7=>if ((!r7) || (r3.2.2 && (!r5.2))) then (some (false,s1)) else ((jw r3.1).bind fun r10=>(y18).bind fun r12=>(z07 r12.1 r10).bind fun r14=>if decide (0≤r14) then ((at? r12.2 r14).bind fun (x17:Int)=>if y3n x17=true then ((some (y4n s1 x17 true)).bind fun (c20:qh)=>some (!r3.2.2,c20)) else none) else ((z8s).bind fun r22=>(z07 r22.1 r10).bind fun r24=>if decide (r24 < 0) then (some (true,s1)) else ((at? r22.2 r24).bind fun (x27:Int)=>if Qi x27=true then (if decide ((Wx s1 x27)=(-1)) then (z6k s1 r3 r5 r22 r24 true) else (if Qi x27=true then (z6k s1 r3 r5 r22 r24 (decide (r5.1 < (Wx s1 x27)))) else none)) else none)))
noncomputable def z2t (k36:Nat) (x39:Bs) (c24:Bool) (c25:Bool) (c26:Int) (c27:Int) (c28:Bool) (c29:Bool) (c30:Bool) (c31:Bool) (c32:Int) (c33:Int) (c34:Int) (c35:Int):Option ((Bool×Bool×Int×Int×Bool×Bool×Bool×Bool×Int×Int×Int×Int) ⊕ (qh×Int)):=
 (z4t (qh.mk c24 c25 c28 c29 c30 c31 c32 c33 c34 c35 c26 c27) x39).bind fun r42=>if !r42.1 then (some (.inr ((qh.mk false false false false false false 0 0 0 0 0 0),9))) else (some (.inl (r42.2.NoStore,r42.2.NoCache,r42.2.MaxStale,r42.2.MinFresh,r42.2.Private,r42.2.Public,r42.2.Must,r42.2.Only,r42.2.MaxAge,r42.2.Shared,r42.2.Stale,r42.2.OnError)))
noncomputable def y7l (c24:Bool) (c25:Bool) (c26:Int) (c27:Int) (c28:Bool) (c29:Bool) (c30:Bool) (c31:Bool) (c32:Int) (c33:Int) (c34:Int) (c35:Int):Option (qh×Int):=
 some ((qh.mk c24 c25 c28 c29 c30 c31 c32 c33 c34 c35 c26 c27),0)
noncomputable def y7k (k16:Nat) (x19:Int) (c4:Bool) (c5:Bool) (c6:Int) (c7:Int) (c8:Bool) (c9:Bool) (c10:Bool) (c11:Bool) (c12:Int) (c13:Int) (c14:Int) (c15:Int):Option ((Bool×Bool×Int×Int×Bool×Bool×Bool×Bool×Int×Int×Int×Int) ⊕ (qh×Int)):=
 if Qi x19=true then ((some (y00 (qh.mk c4 c5 c8 c9 c10 c11 c12 c13 c14 c15 c6 c7) x19 (-1))).bind fun (c48:qh)=>some (.inl (c48.NoStore,c48.NoCache,c48.MaxStale,c48.MinFresh,c48.Private,c48.Public,c48.Must,c48.Only,c48.MaxAge,c48.Shared,c48.Stale,c48.OnError))) else none
noncomputable def z9t (l1:(List zt)) (c4:Bool) (c5:Bool) (c6:Int) (c7:Int) (c8:Bool) (c9:Bool) (c10:Bool) (c11:Bool) (c12:Int) (c13:Int) (c14:Int) (c15:Int):Option (qh×Int):=
 (ux l1 [99,97,99,104,101,45,99,111,110,116,114,111,108]).bind fun r20=>(Wc r20).bind fun r22=>if r22.length≤1000000000 then forL (fun (k:Nat) (x:Bs) (s:Bool×Bool×Int×Int×Bool×Bool×Bool×Bool×Int×Int×Int×Int)=>z2t k x s.1 s.2.1 s.2.2.1 s.2.2.2.1 s.2.2.2.2.1 s.2.2.2.2.2.1 s.2.2.2.2.2.2.1 s.2.2.2.2.2.2.2.1 s.2.2.2.2.2.2.2.2.1 s.2.2.2.2.2.2.2.2.2.1 s.2.2.2.2.2.2.2.2.2.2.1 s.2.2.2.2.2.2.2.2.2.2.2) (fun (s:Bool×Bool×Int×Int×Bool×Bool×Bool×Bool×Int×Int×Int×Int)=>y7l s.1 s.2.1 s.2.2.1 s.2.2.2.1 s.2.2.2.2.1 s.2.2.2.2.2.1 s.2.2.2.2.2.2.1 s.2.2.2.2.2.2.2.1 s.2.2.2.2.2.2.2.2.1 s.2.2.2.2.2.2.2.2.2.1 s.2.2.2.2.2.2.2.2.2.2.1 s.2.2.2.2.2.2.2.2.2.2.2) 0 r22 (c4,c5,c6,c7,c8,c9,c10,c11,c12,c13,c14,c15) else none
noncomputable def z4v (l1:(List zt)):Option (qh×Int):=
 (z8s).bind fun r2=>if r2.2.length≤1000000000 then forL (fun (k:Nat) (x:Int) (s:Bool×Bool×Int×Int×Bool×Bool×Bool×Bool×Int×Int×Int×Int)=>y7k k x s.1 s.2.1 s.2.2.1 s.2.2.2.1 s.2.2.2.2.1 s.2.2.2.2.2.1 s.2.2.2.2.2.2.1 s.2.2.2.2.2.2.2.1 s.2.2.2.2.2.2.2.2.1 s.2.2.2.2.2.2.2.2.2.1 s.2.2.2.2.2.2.2.2.2.2.1 s.2.2.2.2.2.2.2.2.2.2.2) (fun (s:Bool×Bool×Int×Int×Bool×Bool×Bool×Bool×Int×Int×Int×Int)=>z9t l1 s.1 s.2.1 s.2.2.1 s.2.2.2.1 s.2.2.2.2.1 s.2.2.2.2.2.1 s.2.2.2.2.2.2.1 s.2.2.2.2.2.2.2.1 s.2.2.2.2.2.2.2.2.1 s.2.2.2.2.2.2.2.2.2.1 s.2.2.2.2.2.2.2.2.2.2.1 s.2.2.2.2.2.2.2.2.2.2.2) 0 r2.2 (false,false,0,0,false,false,false,false,0,0,0,0) else none
noncomputable def z8u (c1:qh):Option (Int):=
 if c1.NoCache then some 0 else (if decide (c1.Shared≠(-1)) then (some (wr (c1.Shared * 1000))) else (if decide (c1.MaxAge≠(-1)) then (some (wr (c1.MaxAge * 1000))) else some 0))
noncomputable def y19 (a1:yu):Option (Int×Int):=
 (Zs a1).bind fun r2=>if decide (r2≠0) then (some (0,r2)) else ((z4v a1.Headers).bind fun r5=>if decide (r5.2≠0) then (some (0,r5.2)) else ((Zx a1).bind fun r8=>if decide (r8.2.2≠0) then (some (0,r8.2.2)) else ((z8u r5.1).bind fun r11=>some (r11,0))))
noncomputable def z8q  : Option (Bool):=
 (y19 (yu.mk 200 ([(zt.mk [99,97,99,104,101,45,99,111,110,116,114,111,108] [109,97,120,45,97,103,101,61,50])]) [])).bind fun r1=>some ((decide (r1.2=0)) && (decide (r1.1=2000)))
noncomputable def z2m (v73:Bool):Option (Bool):=
 some v73
noncomputable def z2n (r54:(Int×Int)) (v63:Int) (v64:Int):Option (Bool):=
 if decide (r54.2=v63) then (if decide (r54.1=v64) then ((z8q ).bind fun r69=>z2m r69) else (z2m false)) else (z2m false)
noncomputable def y3c (k51:Nat) (v47:Int) (c48:(List Int)) (c49:Int) (l50:(List yc)):Option ((Int×(List Int)×Int×(List yc)) ⊕ (Bool)):=
 (z4q (zr.mk c48 c49)).bind fun r75=>if l50.length+1≤1000000000 then ((Wp r75.1).bind fun r78=>(Wq [v47,r78]).bind fun r80=>some (.inl (r80,r75.2.L,r75.2.at_,(l50++[r75.1])))) else none
noncomputable def y3d (r6:(zw×zr)) (v47:Int) (c48:(List Int)) (c49:Int) (l50:(List yc)):Option (Bool):=
 (z8y l50 r6.1).bind fun r54=>(Yu r6.1).bind fun r56=>(Wq [v47,r56]).bind fun r58=>if decide (r58=0) then ((z4o l50 r6.1).bind fun r61=>z2n r54 r61.2 r61.1) else (z2n r54 r58 0)
noncomputable def z2o (r6:(zw×zr)) (r8:(Int×zr)) (r10:(Int×Int)) (r12:(Bool×Int)) (r14:(Int×Int)) (r16:(Int)) (r25:(Int)) (v34:Int) (v38:Int) (v39:Bool) (v43:Int):Option (Bool):=
 if ((((((decide (r10.2≠r25)) || (decide (r10.1≠v34))) || (decide (r12.2≠v38))) || (r12.1 != v39)) || (decide (r14.2≠r16))) || (decide (r14.1≠v43))) then some false else ((Zv r8.2 0 4).bind fun r45=>if r45.1≤1000000000 then rng (fun (k:Nat) (s:Int×(List Int)×Int×(List yc))=>y3c k s.1 s.2.1 s.2.2.1 s.2.2.2) (fun (s:Int×(List Int)×Int×(List yc))=>y3d r6 s.1 s.2.1 s.2.2.1 s.2.2.2) r45.1.toNat 0 (0,r45.2.L,r45.2.at_,[]) else none)
noncomputable def z2p (r2:(yc×zr)) (r6:(zw×zr)) (r8:(Int×zr)) (r10:(Int×Int)) (r12:(Bool×Int)) (r14:(Int×Int)) (r16:(Int)) (r25:(Int)) (v34:Int) (v38:Int) (v39:Bool):Option (Bool):=
 if decide (r16=0) then ((z8f r2.1).bind fun r41=>z2o r6 r8 r10 r12 r14 r16 r25 v34 v38 v39 r41) else (z2o r6 r8 r10 r12 r14 r16 r25 v34 v38 v39 0)
noncomputable def z2q (r2:(yc×zr)) (r6:(zw×zr)) (r8:(Int×zr)) (r10:(Int×Int)) (r12:(Bool×Int)) (r14:(Int×Int)) (r16:(Int)) (r25:(Int)) (r29:(Int)) (v34:Int):Option (Bool):=
 if decide (r29=0) then ((Wl r2.1 r6.1).bind fun r36=>z2p r2 r6 r8 r10 r12 r14 r16 r25 v34 r36.2 r36.1) else (z2p r2 r6 r8 r10 r12 r14 r16 r25 v34 r29 false)
noncomputable def y15 (v1:(List Int)):Option (Bool):=
 (z4q (zr.mk v1 0)).bind fun r2=>(Yv r2.2 [0,1000,20000]).bind fun r4=>(z4r r4.2 r4.1).bind fun r6=>(Yv r6.2 [0,1000,20000,50000,(-1)]).bind fun r8=>(z8z r2.1 r8.1).bind fun r10=>(z8w r2.1 r6.1).bind fun r12=>(z8x r2.1).bind fun r14=>(Wp r2.1).bind fun r16=>(Zy r2.1).bind fun r18=>if decide (r18≠r16) then some false else ((z8p r8.1).bind fun r21=>(z4s (decide (r8.1 < r2.1.At)) 7).bind fun r23=>(Wq [r16,r21,r23]).bind fun r25=>(Yu r6.1).bind fun r27=>(Wq [r16,r27]).bind fun r29=>if decide (r25=0) then ((z4p r2.1 r8.1).bind fun r32=>z2q r2 r6 r8 r10 r12 r14 r16 r25 r29 r32) else (z2q r2 r6 r8 r10 r12 r14 r16 r25 r29 0))
end Go.Proofs.YtmdllhcjefcggacGreatDoor
