/- Plain models of functions. Printed by a program. -/
import Derived.Test.YtmdllhcjefcggabGreatDoorMc
import Derived.Test.YtmdllhcjefcggabGreatDoorRng
import Derived.Test.YtmdllhcjefcggabGreatDoorMk
namespace Go.Proofs.YtmdllhcjefcggabGreatDoor
set_option linter.unusedVariables false
set_option maxRecDepth 20000
structure zt where
 L:(List Int)
 at_:Int
structure zn where
 Name:Bs
 Value:Bs
structure zz where
 At:Int
 Method:Bs
 Host:Bs
 Path:Bs
 Query:Bs
 From:Bs
 Headers:(List zn)
 Body:Bs
structure qc where
 Status:Int
 Headers:(List zn)
 Body:Bs
structure qr where
 Request:zz
 Response:qc
 At:Int
 Tags:(List Bs)
 Used:Int
structure zy where
 NoStore:Bool
 NoCache:Bool
 Private:Bool
 Public:Bool
 Must:Bool
 Only:Bool
 MaxAge:Int
 Shared:Int
 Stale:Int
 OnError:Int
 MaxStale:Int
 MinFresh:Int
structure zo where
 Name:Bs
 Value:Bs
structure wl where
 c_:Int
 plain_:Bool
def z90 (x:Int):Bool:=decide (x=0) || decide (x=1) || decide (x=2) || decide (x=3) || decide (x=4) || decide (x=5)
def ku (c:zy) (x:Int) (y:Bool):zy:=if x=0 then zy.mk y c.NoCache c.Private c.Public c.Must c.Only c.MaxAge c.Shared c.Stale c.OnError c.MaxStale c.MinFresh else if x=1 then zy.mk c.NoStore y c.Private c.Public c.Must c.Only c.MaxAge c.Shared c.Stale c.OnError c.MaxStale c.MinFresh else if x=2 then zy.mk c.NoStore c.NoCache y c.Public c.Must c.Only c.MaxAge c.Shared c.Stale c.OnError c.MaxStale c.MinFresh else if x=3 then zy.mk c.NoStore c.NoCache c.Private y c.Must c.Only c.MaxAge c.Shared c.Stale c.OnError c.MaxStale c.MinFresh else if x=4 then zy.mk c.NoStore c.NoCache c.Private c.Public y c.Only c.MaxAge c.Shared c.Stale c.OnError c.MaxStale c.MinFresh else if x=5 then zy.mk c.NoStore c.NoCache c.Private c.Public c.Must y c.MaxAge c.Shared c.Stale c.OnError c.MaxStale c.MinFresh else c
def xb (x:Int):Bool:=decide (x=6) || decide (x=7) || decide (x=8) || decide (x=9) || decide (x=10) || decide (x=11)
def vx (c:zy) (x:Int):Int:=if x=6 then c.MaxAge else if x=7 then c.Shared else if x=8 then c.Stale else if x=9 then c.OnError else if x=10 then c.MaxStale else if x=11 then c.MinFresh else 0
def xh (c:zy) (x:Int) (y:Int):zy:=if x=6 then zy.mk c.NoStore c.NoCache c.Private c.Public c.Must c.Only y c.Shared c.Stale c.OnError c.MaxStale c.MinFresh else if x=7 then zy.mk c.NoStore c.NoCache c.Private c.Public c.Must c.Only c.MaxAge y c.Stale c.OnError c.MaxStale c.MinFresh else if x=8 then zy.mk c.NoStore c.NoCache c.Private c.Public c.Must c.Only c.MaxAge c.Shared y c.OnError c.MaxStale c.MinFresh else if x=9 then zy.mk c.NoStore c.NoCache c.Private c.Public c.Must c.Only c.MaxAge c.Shared c.Stale y c.MaxStale c.MinFresh else if x=10 then zy.mk c.NoStore c.NoCache c.Private c.Public c.Must c.Only c.MaxAge c.Shared c.Stale c.OnError y c.MinFresh else if x=11 then zy.mk c.NoStore c.NoCache c.Private c.Public c.Must c.Only c.MaxAge c.Shared c.Stale c.OnError c.MaxStale y else c
noncomputable def z6l (x6:Int):Option (Int):=
 some x6
noncomputable def z1m (x1:Int) (n2:Int):Option (Int):=
 if decide (n2 < 1) then some 0 else (if n2≠0 then (if decide ((Int.tmod x1 n2) < 0) then (z6l (wr ((Int.tmod x1 n2)+n2))) else (z6l (Int.tmod x1 n2))) else none)
noncomputable def uk (s1:zt) (n2:Int):Option (Int×zt):=
 if decide ((s1.L.length:Int)=0) then ((z1m (wr ((wr (s1.at_+1)) * 7919)) n2).bind fun r4=>some (r4,(zt.mk s1.L (wr (s1.at_+1))))) else (if (s1.L.length:Int)≠0 then (if ((0:Int)≤(wr ((wr (s1.at_+1)) - 1))∧(wr ((wr (s1.at_+1)) - 1))≤9223372036854775807)∧(0:Int) < (s1.L.length:Int) then ((at? s1.L (Int.tmod (wr ((wr (s1.at_+1)) - 1)) (s1.L.length:Int))).bind fun (x8:Int)=>(z1m x8 1073741824).bind fun r10=>(z1m (wr (r10+(wr (((wr ((wr (s1.at_+1)) - 1)) / (s1.L.length:Int)) * (wr (7919+(Int.tmod (wr ((wr (s1.at_+1)) - 1)) (s1.L.length:Int)))))))) n2).bind fun r12=>some (r12,(zt.mk s1.L (wr (s1.at_+1))))) else none) else none)
noncomputable def vn (s1:zt) (l2:(List Bs)):Option (Bs×zt):=
 (uk s1 (l2.length:Int)).bind fun r3=>(at? l2 r3.1).bind fun (x5:Bs)=>some (x5,r3.2)
noncomputable def vp (s1:zt) (n2:Int):Option (Bool×zt):=
 (uk s1 n2).bind fun r3=>some (decide (r3.1=0),r3.2)
noncomputable def Qa (s1:zt) (low2:Int) (high3:Int):Option (Int×zt):=
 if decide (high3 < low2) then (some (low2,s1)) else ((uk s1 (wr ((wr (high3 - low2))+1))).bind fun r5=>some (wr (low2+r5.1),r5.2))
noncomputable def z6g (l4:(List Bs)) (k8:Nat) (c5:(List Int)) (c6:Int) (l7:(List Bs)):Option (((List Int)×Int×(List Bs)) ⊕ (Bs×zt)):=
 (vn (zt.mk c5 c6) l4).bind fun r14=>if l7.length+1≤1000000000 then (some (.inl (r14.2.L,r14.2.at_,(l7++[r14.1])))) else none
noncomputable def z6h (between3:Bs) (c5:(List Int)) (c6:Int) (l7:(List Bs)):Option (Bs×zt):=
 (jr l7 between3).bind fun r11=>some (r11,(zt.mk c5 c6))
noncomputable def kz (s1:zt) (many2:Int) (between3:Bs) (l4:(List Bs)):Option (Bs×zt):=
 if many2≤1000000000 then rng (fun (k:Nat) (s:(List Int)×Int×(List Bs))=>z6g l4 k s.1 s.2.1 s.2.2) (fun (s:(List Int)×Int×(List Bs))=>z6h between3 s.1 s.2.1 s.2.2) many2.toNat 0 (s1.L,s1.at_,[]) else none
noncomputable def z6k (t11:Bs) (c12:(List Int)) (c13:Int):Option (Bs×zt):=
 some (t11,(zt.mk c12 c13))
noncomputable def z40 (s1:zt):Option (Bs×zt):=
 (Qa s1 1 2).bind fun r2=>(kz r2.2 r2.1 [44,32] ([[109,97,120,45,97,103,101,61,51,48],[109,97,120,45,97,103,101,61,48],[109,105,110,45,102,114,101,115,104,61,50,48],[109,97,120,45,115,116,97,108,101,61,49,53],[110,111,45,99,97,99,104,101],[111,110,108,121,45,105,102,45,99,97,99,104,101,100],[109,97,120,45,115,116,97,108,101,61,49,48,48,48],[110,111,45,115,116,111,114,101]])).bind fun r4=>(vp r4.2 20).bind fun r6=>if r6.1 then ((vn r6.2 ([[109,97,120,45,115,116,97,108,101],[109,105,110,45,102,114,101,115,104,61,120]])).bind fun r9=>z6k r9.1 r9.2.L r9.2.at_) else (z6k r4.1 r6.2.L r6.2.at_)
noncomputable def z8t (s1:zt) (t2:Bs) (v3:Bs):Option (Bs×zt):=
 if ((decide (t2=[])) || (decide (v3=[]))) then (some (v3,s1)) else ((uk s1 (t2.length:Int)).bind fun r5=>(uk r5.2 (v3.length:Int)).bind fun r7=>(at? v3 r7.1).bind fun (x9:UInt8)=>(uk r7.2 3).bind fun r11=>if decide (r11.1=0) then ((sub? t2 0 r5.1).bind fun (l14:Bs)=>if l14.length+(encL (IntKind.wrap .i32 (x9.toNat:Int))).length≤1000000000 then ((sub? t2 (wr (r5.1+1)) (t2.length:Int)).bind fun (l17:Bs)=>if (l14++(encL (IntKind.wrap .i32 (x9.toNat:Int)))).length+l17.length≤1000000000 then (some (((l14++(encL (IntKind.wrap .i32 (x9.toNat:Int))))++l17),r11.2)) else none) else none) else (if decide (r11.1=1) then ((sub? t2 0 r5.1).bind fun (l21:Bs)=>if l21.length+(encL (IntKind.wrap .i32 (x9.toNat:Int))).length≤1000000000 then ((sub? t2 r5.1 (t2.length:Int)).bind fun (l24:Bs)=>if (l21++(encL (IntKind.wrap .i32 (x9.toNat:Int)))).length+l24.length≤1000000000 then (some (((l21++(encL (IntKind.wrap .i32 (x9.toNat:Int))))++l24),r11.2)) else none) else none) else ((sub? t2 0 r5.1).bind fun (l27:Bs)=>(sub? t2 (wr (r5.1+1)) (t2.length:Int)).bind fun (l29:Bs)=>if l27.length+l29.length≤1000000000 then (some ((l27++l29),r11.2)) else none)))
noncomputable def z6i (p23:Bs) (c24:(List Int)) (c25:Int):Option (Bs×zt):=
 some (p23,(zt.mk c24 c25))
noncomputable def z2b (p15:Bs) (c16:(List Int)) (c17:Int):Option (Bs×zt):=
 (vp (zt.mk c16 c17) 12).bind fun r18=>if r18.1 then ((z8t r18.2 p15 [47,46,37,50,102,65]).bind fun r21=>z6i r21.1 r21.2.L r21.2.at_) else (z6i p15 r18.2.L r18.2.at_)
noncomputable def z8p (s1:zt):Option (Bs×zt):=
 (Qa s1 0 4).bind fun r2=>(kz r2.2 r2.1 [47] ([[97],[98],[37,52,49],[37,50,102],[37,55,101],[46],[46,46],[],[120,59,121],[99,37,50,48,100],[37,99,51,37,97,52],[65],[97,46,98],[126]])).bind fun r4=>if [47].length+r4.1.length≤1000000000 then ((vp r4.2 12).bind fun r7=>if r7.1 then ((Wg [37,50,48] 340).bind fun r10=>if [47].length+r10.length≤1000000000 then ((vn r7.2 ([[],[97],[47,97,63,98],[47,97,35],[47,37],[47,37,52],[47,37,122,122],[47,127],[47,97,32,98],([47]++r10)])).bind fun r13=>z2b r13.1 r13.2.L r13.2.at_) else none) else (z2b ([47]++r4.1) r7.2.L r7.2.at_)) else none
noncomputable def z2a (q13:Bs) (c14:(List Int)) (c15:Int):Option (Bs×zt):=
 some (q13,(zt.mk c14 c15))
noncomputable def z1l (s1:zt):Option (Bs×zt):=
 (Qa s1 0 4).bind fun r2=>(kz r2.2 r2.1 [38] ([[97,61,49],[98,61,50],[97,61],[61,120],[61],[99],[],[97,61,37,52,49,43,37,50,66],[100,61,120,37,50,54,121],[98,61,37,99,51],[97,61,49,61,50],[97,63,98,61,47]])).bind fun r4=>(vp r4.2 12).bind fun r6=>if r6.1 then ((kz r6.2 101 [38] ([[120]])).bind fun r9=>(vn r9.2 ([[35],[97,37],[37,103,49,61,50],[97,32,98],[128],r9.1])).bind fun r11=>z2a r11.1 r11.2.L r11.2.at_) else (z2a r4.1 r6.2.L r6.2.at_)
noncomputable def z2k (v2:Int) (r3:(Bs×zt)) (r5:(Bs×zt)) (l46:(List zn)) (c54:(List Int)) (c55:Int) (c56:Bs) (c57:Bs):Option (zz×zt):=
 some ((zz.mk v2 r3.1 r5.1 c56 c57 [] l46 []),(zt.mk c54 c55))
noncomputable def z2l (v2:Int) (r3:(Bs×zt)) (r5:(Bs×zt)) (r7:(Bs×zt)) (r9:(Bs×zt)) (c44:(List Int)) (c45:Int) (l46:(List zn)):Option (zz×zt):=
 (vp (zt.mk c44 c45) 40).bind fun r47=>if r47.1 then ((z8p r47.2).bind fun r50=>(z1l r50.2).bind fun r52=>z2k v2 r3 r5 l46 r52.2.L r52.2.at_ r50.1 r52.1) else (z2k v2 r3 r5 l46 r47.2.L r47.2.at_ r7.1 r9.1)
noncomputable def z2m (v2:Int) (r3:(Bs×zt)) (r5:(Bs×zt)) (r7:(Bs×zt)) (r9:(Bs×zt)) (c35:(List Int)) (c36:Int) (l37:(List zn)):Option (zz×zt):=
 (vp (zt.mk c35 c36) 8).bind fun r38=>if r38.1 then ((vn r38.2 ([[34,118,49,34],[87,47,34,118,50,34,44,32,34,118,49,34],[42],[118,49]])).bind fun r41=>if l37.length+1≤1000000000 then (z2l v2 r3 r5 r7 r9 r41.2.L r41.2.at_ (l37++([(zn.mk [105,102,45,110,111,110,101,45,109,97,116,99,104] r41.1)]))) else none) else (z2l v2 r3 r5 r7 r9 r38.2.L r38.2.at_ l37)
noncomputable def z2n (v2:Int) (r3:(Bs×zt)) (r5:(Bs×zt)) (r7:(Bs×zt)) (r9:(Bs×zt)) (c28:(List Int)) (c29:Int) (l30:(List zn)):Option (zz×zt):=
 (vp (zt.mk c28 c29) 12).bind fun r31=>if r31.1 then (if l30.length+1≤1000000000 then (z2m v2 r3 r5 r7 r9 r31.2.L r31.2.at_ (l30++([(zn.mk [97,117,116,104,111,114,105,122,97,116,105,111,110] [66,101,97,114,101,114,32,120])]))) else none) else (z2m v2 r3 r5 r7 r9 r31.2.L r31.2.at_ l30)
noncomputable def z2o (v2:Int) (r3:(Bs×zt)) (r5:(Bs×zt)) (r7:(Bs×zt)) (r9:(Bs×zt)) (c19:(List Int)) (c20:Int) (l21:(List zn)):Option (zz×zt):=
 (vp (zt.mk c19 c20) 4).bind fun r22=>if r22.1 then ((z40 r22.2).bind fun r25=>if l21.length+1≤1000000000 then (z2n v2 r3 r5 r7 r9 r25.2.L r25.2.at_ (l21++([(zn.mk [99,97,99,104,101,45,99,111,110,116,114,111,108] r25.1)]))) else none) else (z2n v2 r3 r5 r7 r9 r22.2.L r22.2.at_ l21)
noncomputable def z4z (s1:zt) (v2:Int):Option (zz×zt):=
 (vn s1 ([[71,69,84],[71,69,84],[71,69,84],[71,69,84],[72,69,65,68],[80,79,83,84]])).bind fun r3=>(vn r3.2 ([[97,46,98],[97,46,98],[65,46,66,58,56,48],[99,46,100]])).bind fun r5=>(vn r5.2 ([[47,120],[47,120],[47,120,47,46,47],[47,37,55,56],[47,121]])).bind fun r7=>(vn r7.2 ([[],[],[98,61,50,38,97,61,49],[97,61,49,38,98,61,50]])).bind fun r9=>(vp r9.2 3).bind fun r11=>if r11.1 then ((vn r11.2 ([[97,99,99,101,112,116,45,108,97,110,103,117,97,103,101],[65,99,99,101,112,116,45,76,97,110,103,117,97,103,101]])).bind fun r14=>(vn r14.2 ([[100,101],[101,110]])).bind fun r16=>if ([]:List zn).length+1≤1000000000 then (z2o v2 r3 r5 r7 r9 r16.2.L r16.2.at_ (([]:List zn)++[(zn.mk r14.1 r16.1)])) else none) else (z2o v2 r3 r5 r7 r9 r11.2.L r11.2.at_ ([]:List zn))
noncomputable def Wx (s1:zt) (l2:(List Int)):Option (Int×zt):=
 (uk s1 (l2.length:Int)).bind fun r3=>(at? l2 r3.1).bind fun (x5:Int)=>some (x5,r3.2)
noncomputable def z6j (t19:Bs) (c20:(List Int)) (c21:Int):Option (Bs×zt):=
 some (t19,(zt.mk c20 c21))
noncomputable def z2c (t11:Bs) (c12:(List Int)) (c13:Int):Option (Bs×zt):=
 (vp (zt.mk c12 c13) 20).bind fun r14=>if r14.1 then ((vn r14.2 ([[109,97,120,45,97,103,101],[110,111,45,99,97,99,104,101,61,49],[109,97,120,45,97,103,101,61,45,49],[109,97,120,45,97,103,101,61,48,49],[109,97,120,45,97,103,101,61,49,48,48,48,48,48,48,48,49],[61,49],[97,32,98],[109,97,120,45,97,103,101,61,54,48,32,44,32,44,32,110,111,45,99,97,99,104,101]])).bind fun r17=>z6j r17.1 r17.2.L r17.2.at_) else (z6j t11 r14.2.L r14.2.at_)
noncomputable def z8s (s1:zt):Option (Bs×zt):=
 (Qa s1 0 3).bind fun r2=>(kz r2.2 r2.1 [44,32] ([[109,97,120,45,97,103,101,61,54,48],[109,97,120,45,97,103,101,61,54,48],[109,97,120,45,97,103,101,61,48],[109,97,120,45,97,103,101,61,49,48],[115,45,109,97,120,97,103,101,61,51,48],[110,111,45,99,97,99,104,101],[112,117,98,108,105,99],[109,117,115,116,45,114,101,118,97,108,105,100,97,116,101],[115,116,97,108,101,45,119,104,105,108,101,45,114,101,118,97,108,105,100,97,116,101,61,50,48],[115,116,97,108,101,45,105,102,45,101,114,114,111,114,61,49,48,48],[120,61,49],[121],[77,97,120,45,65,103,101,61,57,48]])).bind fun r4=>(vp r4.2 10).bind fun r6=>if r6.1 then ((kz r6.2 2 [44] ([[110,111,45,115,116,111,114,101],[112,114,105,118,97,116,101],[109,97,120,45,97,103,101,61,54,48],[111,110,108,121,45,105,102,45,99,97,99,104,101,100],[105,109,109,117,116,97,98,108,101]])).bind fun r9=>z2c r9.1 r9.2.L r9.2.at_) else (z2c r4.1 r6.2.L r6.2.at_)
noncomputable def Zy (name1:Bs) (value2:Bs) (c3:qc):Option (qc):=
 if c3.Headers.length+1≤1000000000 then (some (qc.mk c3.Status (c3.Headers++[(zn.mk name1 value2)]) c3.Body)) else none
noncomputable def Wy (s1:zt) (low2:Int) (high3:Int):Option (Int×zt):=
 (vp s1 12).bind fun r4=>if r4.1 then ((Wx r4.2 [wr (low2 - 1),wr (high3+1),low2,high3,(-1099511627776),1099511627776]).bind fun r7=>some (r7.1,r7.2)) else ((Qa r4.2 low2 high3).bind fun r9=>some (r9.1,r9.2))
noncomputable def z2d (l85:(List zn)) (c87:Bs) (c93:(List Int)) (c94:Int) (c95:Int):Option (qc×zt):=
 some ((qc.mk c95 l85 c87),(zt.mk c93 c94))
noncomputable def z2e (c83:(List Int)) (c84:Int) (l85:(List zn)) (c86:Int) (c87:Bs):Option (qc×zt):=
 (vp (zt.mk c83 c84) 40).bind fun r88=>if r88.1 then ((Wy r88.2 100 599).bind fun r91=>z2d l85 c87 r91.2.L r91.2.at_ r91.1) else (z2d l85 c87 r88.2.L r88.2.at_ c86)
noncomputable def z2f (c67:(List Int)) (c68:Int) (l69:(List zn)) (c70:Int) (c71:Bs):Option (qc×zt):=
 (vp (zt.mk c67 c68) 30).bind fun r72=>if r72.1 then ((vn r72.2 ([[118,97,114,121],[99,97,99,104,101,45,116,97,103]])).bind fun r75=>(kz r75.2 12 [44] ([[104,49],[104,50],[104,51],[104,52],[104,53],[104,54],[104,55],[104,56],[104,57],[104,97],[104,98],[104,99]])).bind fun r77=>(vn r77.2 ([[97,32,98],[65],[],r77.1])).bind fun r79=>(Zy r75.1 r79.1 (qc.mk c70 l69 c71)).bind fun r81=>z2e r79.2.L r79.2.at_ r81.Headers r81.Status r81.Body) else (z2e r72.2.L r72.2.at_ l69 c70 c71)
noncomputable def z2g (c55:(List Int)) (c56:Int) (l57:(List zn)) (c58:Int) (c59:Bs):Option (qc×zt):=
 (vp (zt.mk c55 c56) 6).bind fun r60=>if r60.1 then ((vn r60.2 ([[53],[53,48],[120],[45,49],[49,48,48,48,48,48,48,48,49]])).bind fun r63=>(Zy [97,103,101] r63.1 (qc.mk c58 l57 c59)).bind fun r65=>z2f r63.2.L r63.2.at_ r65.Headers r65.Status r65.Body) else (z2f r60.2.L r60.2.at_ l57 c58 c59)
noncomputable def z2h (c43:(List Int)) (c44:Int) (l45:(List zn)) (c46:Int) (c47:Bs):Option (qc×zt):=
 (vp (zt.mk c43 c44) 4).bind fun r48=>if r48.1 then ((vn r48.2 ([[114,101,100],[114,101,100,44,32,98,108,117,101],[98,108,117,101,32,103,114,101,101,110],[114,101,100,32,114,101,100]])).bind fun r51=>(Zy [99,97,99,104,101,45,116,97,103] r51.1 (qc.mk c46 l45 c47)).bind fun r53=>z2g r51.2.L r51.2.at_ r53.Headers r53.Status r53.Body) else (z2g r48.2.L r48.2.at_ l45 c46 c47)
noncomputable def z2i (c29:(List Int)) (c30:Int) (l31:(List zn)) (c32:Int) (c33:Bs):Option (qc×zt):=
 (vp (zt.mk c29 c30) 2).bind fun r34=>if r34.1 then ((vn r34.2 ([[101,116,97,103],[69,84,97,103]])).bind fun r37=>(vn r37.2 ([[34,118,49,34],[87,47,34,118,50,34],[118,51]])).bind fun r39=>(Zy r37.1 r39.1 (qc.mk c32 l31 c33)).bind fun r41=>z2h r39.2.L r39.2.at_ r41.Headers r41.Status r41.Body) else (z2h r34.2.L r34.2.at_ l31 c32 c33)
noncomputable def z2j (c17:(List Int)) (c18:Int) (l19:(List zn)) (c20:Int) (c21:Bs):Option (qc×zt):=
 (vp (zt.mk c17 c18) 3).bind fun r22=>if r22.1 then ((vn r22.2 ([[97,99,99,101,112,116,45,108,97,110,103,117,97,103,101],[65,99,99,101,112,116,45,76,97,110,103,117,97,103,101,44,32,120,45,111,110,101],[42],[],[120,45,111,110,101,44,88,45,79,110,101]])).bind fun r25=>(Zy [118,97,114,121] r25.1 (qc.mk c20 l19 c21)).bind fun r27=>z2i r25.2.L r25.2.at_ r27.Headers r27.Status r27.Body) else (z2i r22.2.L r22.2.at_ l19 c20 c21)
noncomputable def z8u (s1:zt):Option (qc×zt):=
 (Wx s1 [200,200,200,200,404,304,500,204,201]).bind fun r2=>(Wg [122] 50).bind fun r4=>(vn r2.2 ([[104,101,108,108,111],[120],[],r4])).bind fun r6=>(vp r6.2 6).bind fun r8=>if !r8.1 then ((vn r8.2 ([[99,97,99,104,101,45,99,111,110,116,114,111,108],[67,97,99,104,101,45,67,111,110,116,114,111,108]])).bind fun r11=>(z8s r11.2).bind fun r13=>(Zy r11.1 r13.1 (qc.mk r2.1 ([]:List zn) r6.1)).bind fun r15=>z2j r13.2.L r13.2.at_ r15.Headers r15.Status r15.Body) else (z2j r8.2.L r8.2.at_ ([]:List zn) r2.1 r6.1)
noncomputable def z8q (s1:zt):Option (Bs×zt):=
 (Wg [97] 64).bind fun r2=>(vn s1 ([[97,46,98],[97,46,98],[65,46,66],[115,104,111,112,46,101,120,97,109,112,108,101],[97,46,98,58,56,48],[97,46,98,58,52,52,51],[97,46,98,58,56,48,56,48],[120,45,49,46,121],[49,46,50,46,51,46,52],[],[97,46,46,98],[45,97,46,98],[97,46,98,58,48],[97,46,98,58,48,56],[97,46,98,58,54,53,53,51,54],[97,95,98],[97,46,98,58],[97,32,98],r2])).bind fun r4=>some (r4.1,r4.2)
noncomputable def Ql (r2:(zz×zt)) (r4:(qc×zt)) (c30:(List Int)) (c31:Int) (c32:Bs) (c33:Int) (c34:(List Bs)) (c35:Int):Option (qr×zt):=
 some ((qr.mk (zz.mk r2.1.At r2.1.Method c32 r2.1.Path r2.1.Query r2.1.From r2.1.Headers r2.1.Body) r4.1 c33 c34 c35),(zt.mk c30 c31))
noncomputable def z8r (s1:zt):Option (qr×zt):=
 (z4z s1 0).bind fun r2=>(z8u r2.2).bind fun r4=>(Wx r4.2 [0,1000,20000]).bind fun r6=>(uk r6.2 3).bind fun r8=>(at? ([[],[[114,101,100]],[[98,108,117,101],[114,101,100]]]) r8.1).bind fun (x10:(List Bs))=>(vp r8.2 20).bind fun r12=>if r12.1 then ((uk r12.2 4).bind fun r15=>if decide (r15.1=0) then ((Wy r15.2 0 100).bind fun r18=>Ql r2 r4 r18.2.L r18.2.at_ r2.1.Host r18.1 x10 r6.1) else (if decide (r15.1=1) then ((Wy r15.2 0 100).bind fun r21=>Ql r2 r4 r21.2.L r21.2.at_ r2.1.Host r6.1 x10 r21.1) else (if decide (r15.1=2) then ((uk r15.2 3).bind fun r24=>(at? ([[[114,101,100],[98,108,117,101]],[[]],[[65]]]) r24.1).bind fun (x26:(List Bs))=>Ql r2 r4 r24.2.L r24.2.at_ r2.1.Host r6.1 x26 r6.1) else ((z8q r15.2).bind fun r28=>Ql r2 r4 r28.2.L r28.2.at_ r28.1 r6.1 x10 r6.1)))) else (Ql r2 r4 r12.2.L r12.2.at_ r2.1.Host r6.1 x10 r6.1)
noncomputable def y2m (s1:zt) (v2:Int):Option (Int×zt):=
 (Wx s1 [0,1,9999,10000,29999,30000,45000,59999,60000,60001,79999,80000,100000,159999,160000,1000000]).bind fun r3=>some (wr (v2+r3.1),r3.2)
noncomputable def y4z (p1:zn→Option (Bool)) (k2:Nat) (x5:zn):Option (Unit ⊕ (Int)):=
 (p1 x5).bind fun r8=>if r8 then (some (.inr (k2:Int))) else (some (.inl ()))
noncomputable def y40:Option (Int):=
 some (-1)
noncomputable def y51 (s1:(List zn)) (p1:zn→Option (Bool)):Option (Int):=
 if s1.length≤1000000000 then forL (fun (k:Nat) (x:zn) (s:Unit)=>y4z p1 k x) (fun (s:Unit)=>y40) 0 s1 () else none
noncomputable def z7k (j6:Int) (i17:Int) (s18:(List zn)):Option ((Int×Int×(List zn)) ⊕ ((List zn))):=
 some (.inl (i17,wr (j6+1),s18))
noncomputable def y1h (i19:Int) (s20:(List zn)):Option ((List zn)):=
 if (0:Int)≤i19∧i19 < (s20.length:Int) then (if (0:Int)≤i19∧i19≤((s20.take i19.toNat++List.replicate (s20.length - i19.toNat) (zn.mk [] [])).length:Int) then (some ((s20.take i19.toNat++List.replicate (s20.length - i19.toNat) (zn.mk [] [])).take i19.toNat)) else none) else none
noncomputable def y43 (p1:zn→Option (Bool)) (i5:Int) (j6:Int) (l7:(List zn)):Option ((Int×Int×(List zn)) ⊕ ((List zn))):=
 if decide (j6 < (l7.length:Int)) then ((at? l7 j6).bind fun (x10:zn)=>(p1 x10).bind fun r12=>if !r12 then ((at? l7 i5).bind fun (x15:zn)=>z7k j6 (wr (i5+1)) (l7.set i5.toNat x10)) else (z7k j6 i5 l7)) else (Option.map .inr (y1h i5 l7))
noncomputable def y2g (s1:(List zn)) (p1:zn→Option (Bool)):Option ((List zn)):=
 (y51 s1 p1).bind fun r2=>if decide (r2=(-1)) then some s1 else (iter (fun (s:Int×Int×(List zn))=>y43 p1 s.1 s.2.1 s.2.2) (r2,wr (r2+1),s1))
noncomputable def z8x (h1:zn):Option (Bool):=
 some (decide (h1.Name=[99,97,99,104,101,45,99,111,110,116,114,111,108]))
noncomputable def z1e (n1:Int):Option (Bool):=
 some ((decide (0≤n1)) && (decide (n1 < 345686400000)))
noncomputable def z8d (c1:Int):Option (Bool):=
 some (((decide (97≤c1)) && (decide (c1≤122))) || ((decide (65≤c1)) && (decide (c1≤90))))
noncomputable def z4e (c1:Int):Option (Bool):=
 some ((decide (48≤c1)) && (decide (c1≤57)))
noncomputable def z3p (v14:Bool):Option (Bool):=
 some v14
noncomputable def z8b (c1:Int):Option (Bool):=
 (z8d c1).bind fun r2=>if r2 then (z3p true) else ((z4e c1).bind fun r6=>if r6 then (z3p true) else ((z09 [33,35,36,37,38,39,42,43,45,46,94,95,96,124,126] c1).bind fun r10=>z3p (decide (0≤r10))))
noncomputable def y16 (k2:Nat) (x5:UInt8):Option (Unit ⊕ (Bool)):=
 (z8b (x5.toNat:Int)).bind fun r8=>if !r8 then (some (.inr false)) else (some (.inl ()))
noncomputable def y5w (s1:Bs):Option (Bool):=
 some ((decide (s1≠[])) && (decide ((s1.length:Int)≤100)))
noncomputable def Wq (s1:Bs):Option (Bool):=
 if s1.length≤1000000000 then forL (fun (k:Nat) (x:UInt8) (s:Unit)=>y16 k x) (fun (s:Unit)=>y5w s1) 0 s1 () else none
noncomputable def kn (c1:Int):Option (Int):=
 some (or_ .u8 c1 32)
noncomputable def z5j (v47:Int) (v85:Int):Option ((Int×Int) ⊕ (Bool)):=
 some (.inl (v85,wr (v47+1)))
noncomputable def Yd (v14:Bs) (v46:Int) (v47:Int) (v78:Bool):Option ((Int×Int) ⊕ (Bool)):=
 if v78 then (z5j v47 48) else ((at? v14 v47).bind fun (x80:UInt8)=>if decide ((x80.toNat:Int)=95) then (if decide (v46≠48) then (some (.inr false)) else (z5j v47 95)) else (if decide (v46=95) then (some (.inr false)) else (z5j v47 33)))
noncomputable def y25 (v86:Int):Option (Bool):=
 some (decide (v86≠95))
noncomputable def y6x (v14:Bs) (v45:Bool) (v46:Int) (v47:Int):Option ((Int×Int) ⊕ (Bool)):=
 if decide (v47 < (v14.length:Int)) then ((at? v14 v47).bind fun (x50:UInt8)=>if decide (48≤(x50.toNat:Int)) then (if decide ((x50.toNat:Int)≤57) then (Yd v14 v46 v47 true) else (if v45 then ((kn (x50.toNat:Int)).bind fun r58=>if decide (97≤r58) then ((kn (x50.toNat:Int)).bind fun r62=>Yd v14 v46 v47 (decide (r62≤102))) else (Yd v14 v46 v47 false)) else (Yd v14 v46 v47 false))) else (if v45 then ((kn (x50.toNat:Int)).bind fun r70=>if decide (97≤r70) then ((kn (x50.toNat:Int)).bind fun r74=>Yd v14 v46 v47 (decide (r74≤102))) else (Yd v14 v46 v47 false)) else (Yd v14 v46 v47 false))) else (Option.map .inr (y25 v46))
noncomputable def z9b (v14:Bs) (v43:Int) (v44:Int) (v45:Bool):Option (Bool):=
 iter (fun (s:Int×Int)=>y6x v14 v45 s.1 s.2) (v43,v44)
noncomputable def z0b (v14:Bs) (v37:Bool):Option (Bool):=
 if v37 then ((v14[1]?).bind fun (x39:UInt8)=>(kn (x39.toNat:Int)).bind fun r41=>z9b v14 48 2 (decide (r41=120))) else (z9b v14 94 0 false)
noncomputable def z9c (v14:Bs):Option (Bool):=
 if decide (2≤(v14.length:Int)) then ((v14[0]?).bind fun (x17:UInt8)=>if decide ((x17.toNat:Int)=48) then ((v14[1]?).bind fun (x21:UInt8)=>(kn (x21.toNat:Int)).bind fun r23=>if decide (r23=98) then (z0b v14 true) else ((kn (x21.toNat:Int)).bind fun r27=>if decide (r27=111) then (z0b v14 true) else ((kn (x21.toNat:Int)).bind fun r31=>z0b v14 (decide (r31=120))))) else (z0b v14 false)) else (z0b v14 false)
noncomputable def z5k (v1:Bs) (v10:Bool):Option (Bool):=
 if v10 then ((sub? v1 1 (v1.length:Int)).bind fun (l12:Bs)=>z9c l12) else (z9c v1)
noncomputable def y55 (v1:Bs):Option (Bool):=
 if decide (1≤(v1.length:Int)) then ((v1[0]?).bind fun (x4:UInt8)=>if decide ((x4.toNat:Int)=45) then (z5k v1 true) else (z5k v1 (decide ((x4.toNat:Int)=43)))) else (z5k v1 false)
noncomputable def z9d (v87:Bool) (v88:Int):Option ((Bool×Int) ⊕ (Int×Int)):=
 some (.inl (v87,v88))
noncomputable def z9j (v46:Int) (v49:Int) (v53:Int) (v55:Bool) (v56:Int) (v83:Int):Option ((Bool×Int) ⊕ (Int×Int)):=
 if decide ((IntKind.wrap .u8 v46)≤v83) then (some (.inr (0,2))) else (if decide (v53≤v56) then (some (.inr (IntKind.wrap .u64 ((shl_ .u64 1 (IntKind.wrap .u64 v49)) - 1),1))) else (if ((decide ((IntKind.wrap .u64 ((IntKind.wrap .u64 (v56 * (IntKind.wrap .u64 v46)))+(IntKind.wrap .u64 v83))) < (IntKind.wrap .u64 (v56 * (IntKind.wrap .u64 v46))))) || (decide ((IntKind.wrap .u64 ((shl_ .u64 1 (IntKind.wrap .u64 v49)) - 1)) < (IntKind.wrap .u64 ((IntKind.wrap .u64 (v56 * (IntKind.wrap .u64 v46)))+(IntKind.wrap .u64 v83)))))) then (some (.inr (IntKind.wrap .u64 ((shl_ .u64 1 (IntKind.wrap .u64 v49)) - 1),1))) else (z9d v55 (IntKind.wrap .u64 ((IntKind.wrap .u64 (v56 * (IntKind.wrap .u64 v46)))+(IntKind.wrap .u64 v83))))))
noncomputable def z9i (v46:Int) (v49:Int) (v53:Int) (v55:Bool) (v56:Int) (x60:Int) (v79:Bool):Option ((Bool×Int) ⊕ (Int×Int)):=
 if v79 then ((kn x60).bind fun r81=>z9j v46 v49 v53 v55 v56 (IntKind.wrap .u8 ((IntKind.wrap .u8 (r81 - 97))+10))) else (some (.inr (0,2)))
noncomputable def Qe (v2:Int) (v46:Int) (v49:Int) (v53:Int) (k57:Nat) (x60:Int) (v55:Bool) (v56:Int):Option ((Bool×Int) ⊕ (Int×Int)):=
 if ((decide (x60=95)) && (decide (v2=0))) then (z9d true v56) else (if ((decide (48≤x60)) && (decide (x60≤57))) then (z9j v46 v49 v53 v55 v56 (IntKind.wrap .u8 (x60 - 48))) else ((kn x60).bind fun r72=>if decide (97≤r72) then ((kn x60).bind fun r76=>z9i v46 v49 v53 v55 v56 x60 (decide (r76≤122))) else (z9i v46 v49 v53 v55 v56 x60 false)))
noncomputable def z5l (v56:Int) (v66:Bool):Option (Int×Int):=
 if v66 then (some (0,2)) else (some (v56,0))
noncomputable def z5n (v1:Bs) (v55:Bool) (v56:Int):Option (Int×Int):=
 if v55 then ((y55 v1).bind fun r63=>z5l v56 (!r63)) else (z5l v56 false)
noncomputable def z5m (v1:Bs) (v2:Int) (v45:Bs) (v46:Int) (v49:Int) (v53:Int):Option (Int×Int):=
 if (0:Int)≤(IntKind.wrap .u64 v49) then (if (ym v45).length≤1000000000 then forL (fun (k:Nat) (x:Int) (s:Bool×Int)=>Qe v2 v46 v49 v53 k x s.1 s.2) (fun (s:Bool×Int)=>z5n v1 s.1 s.2) 0 (ym v45) (false,0) else none) else none
noncomputable def z9e (v1:Bs) (v2:Int) (v45:Bs) (v46:Int) (v49:Int):Option (Int×Int):=
 if decide (v46=10) then (z5m v1 v2 v45 v46 v49 1844674407370955162) else (if decide (v46=16) then (z5m v1 v2 v45 v46 v49 1152921504606846976) else (if (IntKind.wrap .u64 v46)≠0 then (z5m v1 v2 v45 v46 v49 (IntKind.wrap .u64 ((IntKind.wrap .u64 (Int.tdiv 18446744073709551615 (IntKind.wrap .u64 v46)))+1))) else none))
noncomputable def Qf (v1:Bs) (v2:Int) (v3:Int) (v45:Bs) (v46:Int):Option (Int×Int):=
 if decide (v3=0) then (z9e v1 v2 v45 v46 64) else (if ((decide (v3 < 0)) || (decide (64 < v3))) then (some (0,4)) else (z9e v1 v2 v45 v46 v3))
noncomputable def z9f (v1:Bs) (v2:Int) (v3:Int) (v39:Bool):Option (Int×Int):=
 if v39 then ((sub? v1 2 (v1.length:Int)).bind fun (l41:Bs)=>Qf v1 v2 v3 l41 16) else ((sub? v1 1 (v1.length:Int)).bind fun (l43:Bs)=>Qf v1 v2 v3 l43 8)
noncomputable def z9g (v1:Bs) (v2:Int) (v3:Int) (v28:Bool):Option (Int×Int):=
 if v28 then ((sub? v1 2 (v1.length:Int)).bind fun (l30:Bs)=>Qf v1 v2 v3 l30 8) else (if decide (3≤(v1.length:Int)) then ((v1[1]?).bind fun (x34:UInt8)=>(kn (x34.toNat:Int)).bind fun r36=>z9f v1 v2 v3 (decide (r36=120))) else (z9f v1 v2 v3 false))
noncomputable def z9h (v1:Bs) (v2:Int) (v3:Int) (v17:Bool):Option (Int×Int):=
 if v17 then ((sub? v1 2 (v1.length:Int)).bind fun (l19:Bs)=>Qf v1 v2 v3 l19 2) else (if decide (3≤(v1.length:Int)) then ((v1[1]?).bind fun (x23:UInt8)=>(kn (x23.toNat:Int)).bind fun r25=>z9g v1 v2 v3 (decide (r25=111))) else (z9g v1 v2 v3 false))
noncomputable def z4l (v1:Bs) (v2:Int) (v3:Int):Option (Int×Int):=
 if decide (v1=[]) then (some (0,2)) else (if ((decide (2≤v2)) && (decide (v2≤36))) then (Qf v1 v2 v3 v1 v2) else (if decide (v2=0) then ((v1[0]?).bind fun (x7:UInt8)=>if decide ((x7.toNat:Int)=48) then (if decide (3≤(v1.length:Int)) then ((v1[1]?).bind fun (x12:UInt8)=>(kn (x12.toNat:Int)).bind fun r14=>z9h v1 v2 v3 (decide (r14=98))) else (z9h v1 v2 v3 false)) else (Qf v1 v2 v3 v1 10)) else (some (0,3))))
noncomputable def z9k (v31:Int):Option (Int×Int):=
 some (v31,0)
noncomputable def z9l (v14:Bool) (r15:(Int×Int)) (v24:Int):Option (Int×Int):=
 if (0:Int)≤(IntKind.wrap .u64 (wr (v24 - 1))) then (if ((!v14) && (decide ((shl_ .u64 1 (IntKind.wrap .u64 (wr (v24 - 1))))≤r15.1))) then (some (IntKind.wrap .i64 (IntKind.wrap .u64 ((shl_ .u64 1 (IntKind.wrap .u64 (wr (v24 - 1)))) - 1)),1)) else (if (v14 && (decide ((shl_ .u64 1 (IntKind.wrap .u64 (wr (v24 - 1)))) < r15.1))) then (if -9223372036854775807≤IntKind.wrap .i64 (shl_ .u64 1 (IntKind.wrap .u64 (wr (v24 - 1))))∧IntKind.wrap .i64 (shl_ .u64 1 (IntKind.wrap .u64 (wr (v24 - 1))))≤9223372036854775807 then (some ((-(IntKind.wrap .i64 (shl_ .u64 1 (IntKind.wrap .u64 (wr (v24 - 1)))))),1)) else none) else (if v14 then (if -9223372036854775807≤IntKind.wrap .i64 r15.1∧IntKind.wrap .i64 r15.1≤9223372036854775807 then (z9k (-(IntKind.wrap .i64 r15.1))) else none) else (z9k (IntKind.wrap .i64 r15.1))))) else none
noncomputable def z9m (v3:Int) (v14:Bool) (r15:(Int×Int)) (v21:Bool):Option (Int×Int):=
 if v21 then (some (0,r15.2)) else (if decide (v3=0) then (z9l v14 r15 64) else (z9l v14 r15 v3))
noncomputable def z5o (v2:Int) (v3:Int) (v13:Bs) (v14:Bool):Option (Int×Int):=
 (z4l v13 v2 v3).bind fun r15=>if decide (r15.2≠0) then (if (0:Int)≤r15.2∧r15.2≤(4:Int) then (z9m v3 v14 r15 (decide (r15.2≠1))) else none) else (z9m v3 v14 r15 false)
noncomputable def y56 (v1:Bs) (v2:Int) (v3:Int):Option (Int×Int):=
 if decide (v1=[]) then (some (0,2)) else ((v1[0]?).bind fun (x5:UInt8)=>if decide ((x5.toNat:Int)=43) then ((sub? v1 1 (v1.length:Int)).bind fun (l8:Bs)=>z5o v2 v3 l8 false) else (if decide ((x5.toNat:Int)=45) then ((sub? v1 1 (v1.length:Int)).bind fun (l11:Bs)=>z5o v2 v3 l11 true) else (z5o v2 v3 v1 false)))
noncomputable def z5p (k15:Nat) (x18:Int) (v14:Int):Option (Int ⊕ (Int×Int)):=
 if decide (9 < (IntKind.wrap .u8 (x18 - 48))) then (some (.inr (0,2))) else (some (.inl (wr ((wr (v14 * 10))+(IntKind.wrap .i64 (IntKind.wrap .u8 (x18 - 48)))))))
noncomputable def z1s (v23:Int):Option (Int×Int):=
 some (v23,0)
noncomputable def z1v (v1:Bs) (v14:Int):Option (Int×Int):=
 (v1[0]?).bind fun (x19:UInt8)=>if decide ((x19.toNat:Int)=45) then (if -9223372036854775807≤v14∧v14≤9223372036854775807 then (z1s (-v14)) else none) else (z1s v14)
noncomputable def z1u (v1:Bs) (v13:Bs):Option (Int×Int):=
 if (ym v13).length≤1000000000 then forL (fun (k:Nat) (x:Int) (s:Int)=>z5p k x s) (fun (s:Int)=>z1v v1 s) 0 (ym v13) 0 else none
noncomputable def z1t (v1:Bs) (v8:Bool):Option (Int×Int):=
 if v8 then ((sub? v1 1 (v1.length:Int)).bind fun (l10:Bs)=>if decide ((l10.length:Int) < 1) then (some (0,2)) else (z1u v1 l10)) else (z1u v1 v1)
noncomputable def z1f (v1:Bs):Option (Int×Int):=
 if ((false && ((decide (0 < (v1.length:Int))) && (decide ((v1.length:Int) < 10)))) || (true && ((decide (0 < (v1.length:Int))) && (decide ((v1.length:Int) < 19))))) then ((v1[0]?).bind fun (x3:UInt8)=>if decide ((x3.toNat:Int)=45) then (z1t v1 true) else (z1t v1 (decide ((x3.toNat:Int)=43)))) else ((y56 v1 10 0).bind fun r27=>some (r27.1,r27.2))
noncomputable def Yw (s1:Bs):Option (Int×Int):=
 (z1f s1).bind fun r2=>if decide (r2.2≠0) then ((y5y [65,116,111,105] s1 0 0 r2.2).bind fun r5=>some (r2.1,r5)) else (some (r2.1,0))
noncomputable def z83 (v29:Bool):Option (Unit ⊕ (Int×Bool)):=
 if v29 then (some (.inr (0,false))) else (some (.inl ()))
noncomputable def z82 (i18:Nat) (x21:UInt8):Option (Unit ⊕ (Int×Bool)):=
 if decide ((x21.toNat:Int) < 48) then (z83 true) else (z83 (decide (57 < (x21.toNat:Int))))
noncomputable def z5c (s1:Bs):Option (Int×Bool):=
 (Yw s1).bind fun r22=>some (r22.1,decide (r22.2=0))
noncomputable def ul (s1:Bs) (r3:(Bs)) (v16:Bool):Option (Int×Bool):=
 if v16 then (some (0,false)) else (if r3.length≤1000000000 then forL (fun (k:Nat) (x:UInt8) (s:Unit)=>z82 k x) (fun (s:Unit)=>z5c s1) 0 r3 () else none)
noncomputable def z4k (s1:Bs) (most2:Int):Option (Int×Bool):=
 (z32 s1 [45]).bind fun r3=>if decide (r3=[]) then (ul s1 r3 true) else (if decide (most2 < (r3.length:Int)) then (ul s1 r3 true) else ((r3[0]?).bind fun (x9:UInt8)=>if decide ((x9.toNat:Int)=48) then (ul s1 r3 (decide (s1≠[48]))) else (ul s1 r3 false)))
noncomputable def z8h (s1:Bs):Option (Int×Bool):=
 (z4k s1 9).bind fun r2=>some (r2.1,r2.2)
noncomputable def z4j (n1:Int) (low2:Int) (high3:Int):Option (Bool):=
 some ((decide (n1 < low2)) || (decide (high3 < n1)))
noncomputable def z01 (v19:Bool):Option (Bool):=
 some v19
noncomputable def z3r (v32:Bool):Option (Unit ⊕ (Bool)):=
 if v32 then (some (.inr false)) else (some (.inl ()))
noncomputable def y5u (k2:Nat) (x5:UInt8):Option (Unit ⊕ (Bool)):=
 (z8d (x5.toNat:Int)).bind fun r22=>if !r22 then ((z4e (x5.toNat:Int)).bind fun r26=>if !r26 then (z3r (decide ((x5.toNat:Int)≠45))) else (z3r false)) else (z3r false)
noncomputable def y5v (s1:Bs):Option (Bool):=
 if decide (s1≠[]) then (if decide ((s1.length:Int)≤63) then ((s1[0]?).bind fun (x10:UInt8)=>if decide ((x10.toNat:Int)≠45) then ((at? s1 (wr ((s1.length:Int) - 1))).bind fun (x14:UInt8)=>z01 (decide ((x14.toNat:Int)≠45))) else (z01 false)) else (z01 false)) else (z01 false)
noncomputable def y52 (s1:Bs):Option (Bool):=
 if s1.length≤1000000000 then forL (fun (k:Nat) (x:UInt8) (s:Unit)=>y5u k x) (fun (s:Unit)=>y5v s1) 0 s1 () else none
noncomputable def z02 (v23:Bool):Option (Bool):=
 some v23
noncomputable def y11 (k6:Nat) (x9:Bs):Option (Unit ⊕ (Bool)):=
 (y52 x9).bind fun r26=>if !r26 then (some (.inr false)) else (some (.inl ()))
noncomputable def y12 (s1:Bs) (r2:(Bs×Bs×Bool)):Option (Bool):=
 (z8h r2.2.1).bind fun r10=>if decide ((s1.length:Int)≤255) then (if !r2.2.2 then (z02 true) else (if r10.2 then ((z4j r10.1 1 65535).bind fun r18=>z02 (!r18)) else (z02 false))) else (z02 false)
noncomputable def z1c (s1:Bs):Option (Bool):=
 (km s1 [58]).bind fun r2=>(jq r2.1 [46]).bind fun r4=>if r4.length≤1000000000 then forL (fun (k:Nat) (x:Bs) (s:Unit)=>y11 k x) (fun (s:Unit)=>y12 s1 r2) 0 r4 () else none
noncomputable def z3q (v13:Bool):Option (Unit ⊕ (Bool)):=
 if v13 then (some (.inr false)) else (some (.inl ()))
noncomputable def y1z (low2:Int) (high3:Int) (k4:Nat) (x7:UInt8):Option (Unit ⊕ (Bool)):=
 if decide ((x7.toNat:Int) < low2) then (z3q true) else (z3q (decide (high3 < (x7.toNat:Int))))
noncomputable def y10:Option (Bool):=
 some true
noncomputable def Yy (s1:Bs) (low2:Int) (high3:Int):Option (Bool):=
 if s1.length≤1000000000 then forL (fun (k:Nat) (x:UInt8) (s:Unit)=>y1z low2 high3 k x) (fun (s:Unit)=>y10) 0 s1 () else none
noncomputable def Wc (v17:Bool):Option (Int):=
 if v17 then some 3 else some 0
noncomputable def z4f (s1:Bs):Option (Int):=
 if decide (1000 < (s1.length:Int)) then (Wc true) else ((y5x s1 [47]).bind fun r4=>if !r4 then (Wc true) else ((Yy s1 33 126).bind fun r8=>if !r8 then (Wc true) else ((z34 s1 [63,35]).bind fun r12=>Wc r12)))
noncomputable def Za (v12:Bool):Option (Int):=
 if v12 then some 3 else some 0
noncomputable def xj (s1:Bs):Option (Int):=
 if decide (1000 < (s1.length:Int)) then (Za true) else ((Yy s1 33 126).bind fun r4=>if !r4 then (Za true) else ((Wh s1 [35]).bind fun r8=>Za r8))
noncomputable def z7c (s14:Bs):Option (Bs):=
 some s14
noncomputable def z0q (s3:Bs) (v10:Bool):Option (Bs ⊕ (Bs)):=
 if v10 then ((sub? s3 0 (wr ((s3.length:Int) - 1))).bind fun (l12:Bs)=>some (.inl l12)) else (Option.map .inr (z7c s3))
noncomputable def z7b (c2:Int) (s3:Bs):Option (Bs ⊕ (Bs)):=
 if decide (0 < (s3.length:Int)) then ((at? s3 (wr ((s3.length:Int) - 1))).bind fun (x7:UInt8)=>z0q s3 (decide ((x7.toNat:Int)=c2))) else (z0q s3 false)
noncomputable def We (s1:Bs) (c2:Int):Option (Bs):=
 iter (fun (s:Bs)=>z7b c2 s) s1
noncomputable def z7e (s14:Bs):Option (Bs):=
 some s14
noncomputable def z0r (s3:Bs) (v10:Bool):Option (Bs ⊕ (Bs)):=
 if v10 then ((sub? s3 1 (s3.length:Int)).bind fun (l12:Bs)=>some (.inl l12)) else (Option.map .inr (z7e s3))
noncomputable def z7d (c2:Int) (s3:Bs):Option (Bs ⊕ (Bs)):=
 if decide (0 < (s3.length:Int)) then ((s3[0]?).bind fun (x7:UInt8)=>z0r s3 (decide ((x7.toNat:Int)=c2))) else (z0r s3 false)
noncomputable def z08 (s1:Bs) (c2:Int):Option (Bs):=
 iter (fun (s:Bs)=>z7d c2 s) s1
noncomputable def z3e (s1:Bs) (cutset2:Bs) (v9:Bool):Option (Bs):=
 if v9 then ((cutset2[0]?).bind fun (x11:UInt8)=>(We s1 (x11.toNat:Int)).bind fun r13=>(z08 r13 (x11.toNat:Int)).bind fun r15=>some r15) else none
noncomputable def Yv (s1:Bs) (cutset2:Bs):Option (Bs):=
 if ((decide (s1=[])) || (decide (cutset2=[]))) then some s1 else (if decide ((cutset2.length:Int)=1) then ((cutset2[0]?).bind fun (x6:UInt8)=>z3e s1 cutset2 (decide ((x6.toNat:Int) < 128))) else (z3e s1 cutset2 false))
noncomputable def z07 (v12:Bool):Option (Bool):=
 some v12
noncomputable def z1d (s1:Bs):Option (Bool):=
 if decide ((s1.length:Int)≤2000) then ((Yy s1 32 126).bind fun r4=>if r4 then ((Yv s1 [32]).bind fun r8=>z07 (decide (r8=s1))) else (z07 false)) else (z07 false)
noncomputable def y17 (k3:Nat) (x6:zn):Option (Unit ⊕ (Int)):=
 (Wq x6.Name).bind fun r9=>if !r9 then (some (.inr 5)) else ((z1d x6.Value).bind fun r12=>if !r12 then (some (.inr 3)) else (some (.inl ())))
noncomputable def y18:Option (Int):=
 some 0
noncomputable def z4h (l1:(List zn)):Option (Int):=
 if decide (50 < (l1.length:Int)) then some 2 else (if l1.length≤1000000000 then forL (fun (k:Nat) (x:zn) (s:Unit)=>y17 k x) (fun (s:Unit)=>y18) 0 l1 () else none)
noncomputable def Zb (r1:zz) (v25:Bool):Option (Int):=
 if v25 then some 3 else ((z4h r1.Headers).bind fun r27=>if decide (r27≠0) then some r27 else (if decide (20000 < (r1.Body.length:Int)) then some 2 else some 0))
noncomputable def uj (r1:zz):Option (Int):=
 (z1e r1.At).bind fun r2=>if !r2 then some 1 else ((Wq r1.Method).bind fun r5=>if !r5 then some 5 else ((z1c r1.Host).bind fun r8=>if !r8 then (Zb r1 true) else ((z4f r1.Path).bind fun r12=>if decide (r12≠0) then (Zb r1 true) else ((xj r1.Query).bind fun r16=>if decide (r16≠0) then (Zb r1 true) else ((z1d r1.From).bind fun r20=>Zb r1 (!r20))))))
noncomputable def Zv (a1:qc):Option (Int):=
 (z4j a1.Status 100 599).bind fun r2=>if r2 then some 1 else ((z4h a1.Headers).bind fun r5=>if decide (r5≠0) then some r5 else (if decide (20000 < (a1.Body.length:Int)) then some 2 else some 0))
noncomputable def y2v (i2:Nat) (x5:UInt8):Option (Unit ⊕ (Bool)):=
 if !(((decide (97≤(x5.toNat:Int))) && (decide ((x5.toNat:Int)≤122))) || ((decide (0 < (i2:Int))) && ((((decide (48≤(x5.toNat:Int))) && (decide ((x5.toNat:Int)≤57))) || (decide ((x5.toNat:Int)=45))) || (decide ((x5.toNat:Int)=95))))) then (some (.inr false)) else (some (.inl ()))
noncomputable def y6d (s1:Bs):Option (Bool):=
 some ((decide (s1≠[])) && (decide ((s1.length:Int)≤40)))
noncomputable def z8i (s1:Bs):Option (Bool):=
 if s1.length≤1000000000 then forL (fun (k:Nat) (x:UInt8) (s:Unit)=>y2v k x) (fun (s:Unit)=>y6d s1) 0 s1 () else none
noncomputable def z5b (v16:Bool):Option (Unit ⊕ (Int)):=
 if v16 then (some (.inr 7)) else (some (.inl ()))
noncomputable def z5a (l1:(List Bs)) (k2:Nat) (x5:Bs):Option (Unit ⊕ (Int)):=
 (z8i x5).bind fun r8=>if !r8 then (some (.inr 5)) else (if decide (0 < (k2:Int)) then ((at? l1 ((k2:Int) - 1)).bind fun (x13:Bs)=>z5b (Op.bytesLess x5 x13 || x5 == x13)) else (z5b false))
noncomputable def y2u:Option (Int):=
 some 0
noncomputable def y2h (l1:(List Bs)):Option (Int):=
 if l1.length≤1000000000 then forL (fun (k:Nat) (x:Bs) (s:Unit)=>z5a l1 k x) (fun (s:Unit)=>y2u) 0 l1 () else none
noncomputable def z8c (h1:zn) (name2:Bs):Option (Bool):=
 (y2c h1.Name name2).bind fun r3=>some r3
noncomputable def z3t (out14:(List Bs)):Option ((List Bs) ⊕ ((List Bs))):=
 some (.inl out14)
noncomputable def z03 (name2:Bs) (k4:Nat) (x7:zn) (l3:(List Bs)):Option ((List Bs) ⊕ ((List Bs))):=
 (z8c x7 name2).bind fun r10=>if r10 then (if l3.length+1≤1000000000 then (z3t (l3++[x7.Value])) else none) else (z3t l3)
noncomputable def y13 (l3:(List Bs)):Option ((List Bs)):=
 some l3
noncomputable def kw (l1:(List zn)) (name2:Bs):Option ((List Bs)):=
 if l1.length≤1000000000 then forL (fun (k:Nat) (x:zn) (s:(List Bs))=>z03 name2 k x s) (fun (s:(List Bs))=>y13 s) 0 l1 [] else none
noncomputable def Yt (out22:(List Bs)):Option ((List Bs) ⊕ ((List Bs) ⊕ ((List Bs)))):=
 some (.inl out22)
noncomputable def Yr (k12:Nat) (x15:Bs) (l11:(List Bs)):Option ((List Bs) ⊕ ((List Bs) ⊕ ((List Bs)))):=
 (Yv x15 [32]).bind fun r18=>if decide (r18≠[]) then (if l11.length+1≤1000000000 then (Yt (l11++[r18])) else none) else (Yt l11)
noncomputable def z3u (l11:(List Bs)):Option ((List Bs) ⊕ ((List Bs))):=
 some (.inl l11)
noncomputable def Ys (k3:Nat) (x6:Bs) (l2:(List Bs)):Option ((List Bs) ⊕ ((List Bs))):=
 (jq x6 [44]).bind fun r9=>if r9.length≤1000000000 then forL (fun (k:Nat) (x:Bs) (s:(List Bs))=>Yr k x s) (fun (s:(List Bs))=>z3u s) 0 r9 l2 else none
noncomputable def z3v (l2:(List Bs)):Option ((List Bs)):=
 some l2
noncomputable def Wm (values1:(List Bs)):Option ((List Bs)):=
 if values1.length≤1000000000 then forL (fun (k:Nat) (x:Bs) (s:(List Bs))=>Ys k x s) (fun (s:(List Bs))=>z3v s) 0 values1 [] else none
noncomputable def y4t (v2:Bs) (k3:Nat) (x6:Bs):Option (Unit ⊕ (Int)):=
 if decide (v2=x6) then (some (.inr (k3:Int))) else (some (.inl ()))
noncomputable def y4u:Option (Int):=
 some (-1)
noncomputable def Yx (s1:(List Bs)) (v2:Bs):Option (Int):=
 if s1.length≤1000000000 then forL (fun (k:Nat) (x:Bs) (s:Unit)=>y4t v2 k x) (fun (s:Unit)=>y4u) 0 s1 () else none
noncomputable def z79 (s1:(List Bs)) (v2:Bs):Option (Bool):=
 (Yx s1 v2).bind fun r3=>some (decide (0≤r3))
noncomputable def z4i (l1:(List Bs)):Option ((List Bs)):=
 (uz l1).bind fun r2=>(Zs r2).bind fun r4=>(z1b r4).bind fun r6=>some r6
noncomputable def z2w (k7:Nat) (l6:(List Bs)):Option ((List Bs) ⊕ ((List Bs)×Bool×Int)):=
 (l6[k7]?).bind fun (x17:Bs)=>(Wq x17).bind fun r19=>if !r19 then (some (.inr ([],false,9))) else ((jo x17).bind fun r22=>some (.inl (l6.set k7 r22)))
noncomputable def z0j (l6:(List Bs)):Option ((List Bs)×Bool×Int):=
 (z79 l6 [42]).bind fun r10=>if r10 then (some ([],true,0)) else ((z4i l6).bind fun r13=>if decide (10 < (r13.length:Int)) then (some ([],false,2)) else (some (r13,false,0)))
noncomputable def Zz (a1:qc):Option ((List Bs)×Bool×Int):=
 (kw a1.Headers [118,97,114,121]).bind fun r2=>(Wm r2).bind fun r4=>if r4.length≤1000000000 then rng (fun (k:Nat) (s:(List Bs))=>z2w k s) (fun (s:(List Bs))=>z0j s) r4.length 0 r4 else none
noncomputable def z2y (e1:qr) (v15:Bool):Option (Int):=
 if v15 then some 1 else (if decide (20 < (e1.Tags.length:Int)) then some 2 else ((y2h e1.Tags).bind fun r18=>if decide (r18≠0) then some r18 else ((Zz e1.Response).bind fun r21=>some r21.2.2)))
noncomputable def z81 (e1:qr):Option (Int):=
 (uj e1.Request).bind fun r2=>if decide (r2≠0) then some r2 else ((Zv e1.Response).bind fun r5=>if decide (r5≠0) then some r5 else ((z1e e1.At).bind fun r8=>if !r8 then (z2y e1 true) else ((z1e e1.Used).bind fun r12=>z2y e1 (!r12))))
noncomputable def y2o (e1:qr) (r2:zz):Option (Int):=
 (z81 e1).bind fun r3=>if decide (r3≠0) then some r3 else ((uj r2).bind fun r6=>some r6)
noncomputable def z8y  : Option ((List Bs)×(List Int)):=
 some ([[109,97,120,45,97,103,101],[115,45,109,97,120,97,103,101],[115,116,97,108,101,45,119,104,105,108,101,45,114,101,118,97,108,105,100,97,116,101],[115,116,97,108,101,45,105,102,45,101,114,114,111,114],[109,97,120,45,115,116,97,108,101],[109,105,110,45,102,114,101,115,104]],([6,7,8,9,10,11]:List Int))
noncomputable def z6t (r2:(Int×Bool)) (v9:Bool):Option (Int×Bool):=
 some (r2.1,v9)
noncomputable def z43 (s1:Bs):Option (Int×Bool):=
 (z8h s1).bind fun r2=>if r2.2 then ((z4j r2.1 0 100000000).bind fun r6=>z6t r2 (!r6)) else (z6t r2 false)
noncomputable def y2p  : Option ((List Bs)×(List Int)):=
 some ([[110,111,45,115,116,111,114,101],[110,111,45,99,97,99,104,101],[112,114,105,118,97,116,101],[112,117,98,108,105,99],[109,117,115,116,45,114,101,118,97,108,105,100,97,116,101],[111,110,108,121,45,105,102,45,99,97,99,104,101,100]],([0,1,2,3,4,5]:List Int))
noncomputable def z6s (r3:(Bs×Bs×Bool)) (c41:Bool) (c42:Bool) (c43:Bool) (c44:Bool) (c45:Bool) (c46:Bool) (c47:Int) (c48:Int) (c49:Int) (c50:Int) (c51:Int) (c52:Int):Option (Bool×zy):=
 some (r3.2.2,(zy.mk c41 c42 c43 c44 c45 c46 c47 c48 c49 c50 c51 c52))
noncomputable def z6r (s1:zy) (r3:(Bs×Bs×Bool)) (r5:(Int×Bool)) (r22:((List Bs)×(List Int))) (r24:(Int)) (v34:Bool):Option (Bool×zy):=
 if v34 then ((at? r22.2 r24).bind fun (x36:Int)=>if xb x36=true then ((some (xh s1 x36 r5.1)).bind fun (c39:zy)=>z6s r3 c39.NoStore c39.NoCache c39.Private c39.Public c39.Must c39.Only c39.MaxAge c39.Shared c39.Stale c39.OnError c39.MaxStale c39.MinFresh) else none) else (z6s r3 s1.NoStore s1.NoCache s1.Private s1.Public s1.Must s1.Only s1.MaxAge s1.Shared s1.Stale s1.OnError s1.MaxStale s1.MinFresh)
noncomputable def z41 (s1:zy) (v2:Bs):Option (Bool×zy):=
 (km v2 [61]).bind fun r3=>(z43 r3.2.1).bind fun r5=>(Wq r3.1).bind fun r7=>if ((!r7) || (r3.2.2 && (!r5.2))) then (some (false,s1)) else ((jo r3.1).bind fun r10=>(y2p).bind fun r12=>(Yx r12.1 r10).bind fun r14=>if decide (0≤r14) then ((at? r12.2 r14).bind fun (x17:Int)=>if z90 x17=true then ((some (ku s1 x17 true)).bind fun (c20:zy)=>some (!r3.2.2,c20)) else none) else ((z8y).bind fun r22=>(Yx r22.1 r10).bind fun r24=>if decide (r24 < 0) then (some (true,s1)) else ((at? r22.2 r24).bind fun (x27:Int)=>if xb x27=true then (if decide ((vx s1 x27)=(-1)) then (z6r s1 r3 r5 r22 r24 true) else (if xb x27=true then (z6r s1 r3 r5 r22 r24 (decide (r5.1 < (vx s1 x27)))) else none)) else none)))
noncomputable def z0k (k36:Nat) (x39:Bs) (c24:Bool) (c25:Bool) (c26:Int) (c27:Int) (c28:Bool) (c29:Bool) (c30:Bool) (c31:Bool) (c32:Int) (c33:Int) (c34:Int) (c35:Int):Option ((Bool×Bool×Int×Int×Bool×Bool×Bool×Bool×Int×Int×Int×Int) ⊕ (zy×Int)):=
 (z41 (zy.mk c24 c25 c28 c29 c30 c31 c32 c33 c34 c35 c26 c27) x39).bind fun r42=>if !r42.1 then (some (.inr ((zy.mk false false false false false false 0 0 0 0 0 0),9))) else (some (.inl (r42.2.NoStore,r42.2.NoCache,r42.2.MaxStale,r42.2.MinFresh,r42.2.Private,r42.2.Public,r42.2.Must,r42.2.Only,r42.2.MaxAge,r42.2.Shared,r42.2.Stale,r42.2.OnError)))
noncomputable def y3v (c24:Bool) (c25:Bool) (c26:Int) (c27:Int) (c28:Bool) (c29:Bool) (c30:Bool) (c31:Bool) (c32:Int) (c33:Int) (c34:Int) (c35:Int):Option (zy×Int):=
 some ((zy.mk c24 c25 c28 c29 c30 c31 c32 c33 c34 c35 c26 c27),0)
noncomputable def y7i (k16:Nat) (x19:Int) (c4:Bool) (c5:Bool) (c6:Int) (c7:Int) (c8:Bool) (c9:Bool) (c10:Bool) (c11:Bool) (c12:Int) (c13:Int) (c14:Int) (c15:Int):Option ((Bool×Bool×Int×Int×Bool×Bool×Bool×Bool×Int×Int×Int×Int) ⊕ (zy×Int)):=
 if xb x19=true then ((some (xh (zy.mk c4 c5 c8 c9 c10 c11 c12 c13 c14 c15 c6 c7) x19 (-1))).bind fun (c48:zy)=>some (.inl (c48.NoStore,c48.NoCache,c48.MaxStale,c48.MinFresh,c48.Private,c48.Public,c48.Must,c48.Only,c48.MaxAge,c48.Shared,c48.Stale,c48.OnError))) else none
noncomputable def z2x (l1:(List zn)) (c4:Bool) (c5:Bool) (c6:Int) (c7:Int) (c8:Bool) (c9:Bool) (c10:Bool) (c11:Bool) (c12:Int) (c13:Int) (c14:Int) (c15:Int):Option (zy×Int):=
 (kw l1 [99,97,99,104,101,45,99,111,110,116,114,111,108]).bind fun r20=>(Wm r20).bind fun r22=>if r22.length≤1000000000 then forL (fun (k:Nat) (x:Bs) (s:Bool×Bool×Int×Int×Bool×Bool×Bool×Bool×Int×Int×Int×Int)=>z0k k x s.1 s.2.1 s.2.2.1 s.2.2.2.1 s.2.2.2.2.1 s.2.2.2.2.2.1 s.2.2.2.2.2.2.1 s.2.2.2.2.2.2.2.1 s.2.2.2.2.2.2.2.2.1 s.2.2.2.2.2.2.2.2.2.1 s.2.2.2.2.2.2.2.2.2.2.1 s.2.2.2.2.2.2.2.2.2.2.2) (fun (s:Bool×Bool×Int×Int×Bool×Bool×Bool×Bool×Int×Int×Int×Int)=>y3v s.1 s.2.1 s.2.2.1 s.2.2.2.1 s.2.2.2.2.1 s.2.2.2.2.2.1 s.2.2.2.2.2.2.1 s.2.2.2.2.2.2.2.1 s.2.2.2.2.2.2.2.2.1 s.2.2.2.2.2.2.2.2.2.1 s.2.2.2.2.2.2.2.2.2.2.1 s.2.2.2.2.2.2.2.2.2.2.2) 0 r22 (c4,c5,c6,c7,c8,c9,c10,c11,c12,c13,c14,c15) else none
noncomputable def Zd (l1:(List zn)):Option (zy×Int):=
 (z8y).bind fun r2=>if r2.2.length≤1000000000 then forL (fun (k:Nat) (x:Int) (s:Bool×Bool×Int×Int×Bool×Bool×Bool×Bool×Int×Int×Int×Int)=>y7i k x s.1 s.2.1 s.2.2.1 s.2.2.2.1 s.2.2.2.2.1 s.2.2.2.2.2.1 s.2.2.2.2.2.2.1 s.2.2.2.2.2.2.2.1 s.2.2.2.2.2.2.2.2.1 s.2.2.2.2.2.2.2.2.2.1 s.2.2.2.2.2.2.2.2.2.2.1 s.2.2.2.2.2.2.2.2.2.2.2) (fun (s:Bool×Bool×Int×Int×Bool×Bool×Bool×Bool×Int×Int×Int×Int)=>z2x l1 s.1 s.2.1 s.2.2.1 s.2.2.2.1 s.2.2.2.2.1 s.2.2.2.2.2.1 s.2.2.2.2.2.2.1 s.2.2.2.2.2.2.2.1 s.2.2.2.2.2.2.2.2.1 s.2.2.2.2.2.2.2.2.2.1 s.2.2.2.2.2.2.2.2.2.2.1 s.2.2.2.2.2.2.2.2.2.2.2) 0 r2.2 (false,false,0,0,false,false,false,false,0,0,0,0) else none
noncomputable def z4g (s1:Bs):Option (Bs×Int):=
 (z1c s1).bind fun r2=>if !r2 then (some ([],3)) else ((jo s1).bind fun r5=>(km r5 [58]).bind fun r7=>if (((decide (r7.2.1=[])) || (decide (r7.2.1=[56,48]))) || (decide (r7.2.1=[52,52,51]))) then (some (r7.1,0)) else (if r7.1.length+[58].length≤1000000000 then (if (r7.1++[58]).length+r7.2.1.length≤1000000000 then (some (((r7.1++[58])++r7.2.1),0)) else none) else none))
noncomputable def Zc (l1:(List Int)) (c2:Int):Option (Int×(List Int)):=
 if l1.length+1≤1000000000 then (some (0,(l1++[c2]))) else none
noncomputable def z4d (c1:Int):Option (Bool):=
 (z4e c1).bind fun r2=>some ((r2 || ((decide (97≤c1)) && (decide (c1≤102)))) || ((decide (65≤c1)) && (decide (c1≤70))))
noncomputable def z00 (v17:Bool):Option (Bool):=
 some v17
noncomputable def Wi (s1:Bs) (v2:Int):Option (Bool):=
 if decide ((wr (v2+2)) < (s1.length:Int)) then ((at? s1 (wr (v2+1))).bind fun (x5:UInt8)=>(z4d (x5.toNat:Int)).bind fun r7=>if r7 then ((at? s1 (wr (v2+2))).bind fun (x11:UInt8)=>(z4d (x11.toNat:Int)).bind fun r13=>z00 r13) else (z00 false)) else (z00 false)
noncomputable def z38 (s1:Bs) (base2:Int) (bitSize3:Int):Option (Int×Int):=
 (z4l s1 base2 bitSize3).bind fun r4=>if decide (r4.2≠0) then ((y5y [80,97,114,115,101,85,105,110,116] s1 base2 bitSize3 r4.2).bind fun r7=>some (r4.1,r7)) else (some (r4.1,0))
noncomputable def z4b (s1:Bs) (v2:Int):Option (Int):=
 (sub? s1 (wr (v2+1)) (wr (v2+3))).bind fun (l3:Bs)=>(z38 l3 16 8).bind fun r5=>if decide (r5.2≠0) then some 0 else (some (IntKind.wrap .u8 r5.1))
noncomputable def z3s (v14:Bool):Option (Bool):=
 some v14
noncomputable def Zu (c1:Int):Option (Bool):=
 (z8d c1).bind fun r2=>if r2 then (z3s true) else ((z4e c1).bind fun r6=>if r6 then (z3s true) else ((z09 [45,46,95,126] c1).bind fun r10=>z3s (decide (0≤r10))))
noncomputable def Zt (c1:Int):Option (Bs):=
 (at? [48,49,50,51,52,53,54,55,56,57,65,66,67,68,69,70] (shr_ .u8 c1 4)).bind fun (x2:UInt8)=>(at? [48,49,50,51,52,53,54,55,56,57,65,66,67,68,69,70] (and_ .u8 c1 15)).bind fun (x4:UInt8)=>some (strN [37,(x2.toNat:Int),(x4.toNat:Int)])
noncomputable def z36 (l1:(List Int)) (s2:Bs):Option (Int×Int×(List Int)):=
 if l1.length+s2.length≤1000000000 then (some ((s2.length:Int),0,(l1++ym s2))) else none
noncomputable def z0z (i26:Int) (l27:(List Int)):Option ((Int×(List Int)) ⊕ (Bs×Bool)):=
 some (.inl (wr (i26+1),l27))
noncomputable def z3o (i2:Int) (l25:(List Int)):Option ((Int×(List Int)) ⊕ (Bs×Bool)):=
 z0z (wr (i2+2)) l25
noncomputable def z7s (l28:(List Int)):Option (Bs×Bool):=
 if byR l28=true then (some ((strN l28),true)) else none
noncomputable def kv (s1:Bs) (i2:Int) (l3:(List Int)):Option ((Int×(List Int)) ⊕ (Bs×Bool)):=
 if decide (i2 < (s1.length:Int)) then ((at? s1 i2).bind fun (x6:UInt8)=>if decide ((x6.toNat:Int)≠37) then ((Zc l3 (x6.toNat:Int)).bind fun r9=>z0z i2 r9.2) else ((Wi s1 i2).bind fun r11=>if !r11 then (some (.inr ([],false))) else ((z4b s1 i2).bind fun r14=>(Zu r14).bind fun r16=>if r16 then ((Zc l3 r14).bind fun r19=>z3o i2 r19.2) else ((Zt r14).bind fun r21=>(z36 l3 r21).bind fun r23=>z3o i2 r23.2.2)))) else (Option.map .inr (z7s l3))
noncomputable def z8a (s1:Bs):Option (Bs×Bool):=
 iter (fun (s:Int×(List Int))=>kv s1 s.1 s.2) (0,([]:List Int))
noncomputable def z06 (out29:(List Bs)):Option ((List Bs) ⊕ (Bs×Int)):=
 some (.inl out29)
noncomputable def z3y (r10:((List Bs))) (k13:Nat) (out26:(List Bs)):Option ((List Bs) ⊕ (Bs×Int)):=
 if decide ((k13:Int)=(wr ((r10.length:Int) - 1))) then (if out26.length+1≤1000000000 then (z06 (out26++([[]]))) else none) else (z06 out26)
noncomputable def z3x (r10:((List Bs))) (k13:Nat) (x16:Bs) (l12:(List Bs)):Option ((List Bs) ⊕ (Bs×Int)):=
 if decide (x16=[46]) then (z3y r10 k13 l12) else (if decide (x16=[46,46]) then (if (0:Int)≤(max (wr ((l12.length:Int) - 1)) 0)∧(max (wr ((l12.length:Int) - 1)) 0)≤(l12.length:Int) then (z3y r10 k13 (l12.take (max (wr ((l12.length:Int) - 1)) 0).toNat)) else none) else (if l12.length+1≤1000000000 then (z06 (l12++[x16])) else none))
noncomputable def z7v (l12:(List Bs)):Option (Bs×Int):=
 (jr l12 [47]).bind fun r17=>if [47].length+r17.length≤1000000000 then (some (([47]++r17),0)) else none
noncomputable def z8f (s1:Bs):Option (Bs×Int):=
 (z4f s1).bind fun r2=>if decide (r2≠0) then (some ([],r2)) else ((z8a s1).bind fun r5=>if !r5.2 then (some ([],9)) else ((sub? r5.1 1 (r5.1.length:Int)).bind fun (l8:Bs)=>(jq l8 [47]).bind fun r10=>if r10.length≤1000000000 then forL (fun (k:Nat) (x:Bs) (s:(List Bs))=>z3x r10 k x s) (fun (s:(List Bs))=>z7v s) 0 r10 [] else none))
noncomputable def Yq (i22:Int) (l23:(List Int)):Option ((Int×(List Int)) ⊕ (Bs×Bool)):=
 some (.inl (wr (i22+1),l23))
noncomputable def z7t (l24:(List Int)):Option (Bs×Bool):=
 if byR l24=true then (some ((strN l24),true)) else none
noncomputable def ke (s1:Bs) (plus2:Bool) (i3:Int) (l4:(List Int)):Option ((Int×(List Int)) ⊕ (Bs×Bool)):=
 if decide (i3 < (s1.length:Int)) then ((at? s1 i3).bind fun (x7:UInt8)=>if ((decide ((x7.toNat:Int)=43)) && plus2) then ((Zc l4 32).bind fun r10=>Yq i3 r10.2) else (if decide ((x7.toNat:Int)≠37) then ((Zc l4 (x7.toNat:Int)).bind fun r13=>Yq i3 r13.2) else ((Wi s1 i3).bind fun r15=>if !r15 then (some (.inr ([],false))) else ((z4b s1 i3).bind fun r18=>(Zc l4 r18).bind fun r20=>Yq (wr (i3+2)) r20.2)))) else (Option.map .inr (z7t l4))
noncomputable def Wj (s1:Bs) (plus2:Bool):Option (Bs×Bool):=
 iter (fun (s:Int×(List Int))=>ke s1 plus2 s.1 s.2) (0,([]:List Int))
noncomputable def y4x (p1:zo→Option (Bool)) (k2:Nat) (x5:zo):Option (Unit ⊕ (Int)):=
 (p1 x5).bind fun r8=>if r8 then (some (.inr (k2:Int))) else (some (.inl ()))
noncomputable def y4y:Option (Int):=
 some (-1)
noncomputable def y50 (s1:(List zo)) (p1:zo→Option (Bool)):Option (Int):=
 if s1.length≤1000000000 then forL (fun (k:Nat) (x:zo) (s:Unit)=>y4x p1 k x) (fun (s:Unit)=>y4y) 0 s1 () else none
noncomputable def z7j (j6:Int) (i17:Int) (s18:(List zo)):Option ((Int×Int×(List zo)) ⊕ ((List zo))):=
 some (.inl (i17,wr (j6+1),s18))
noncomputable def y1g (i19:Int) (s20:(List zo)):Option ((List zo)):=
 if (0:Int)≤i19∧i19 < (s20.length:Int) then (if (0:Int)≤i19∧i19≤((s20.take i19.toNat++List.replicate (s20.length - i19.toNat) (zo.mk [] [])).length:Int) then (some ((s20.take i19.toNat++List.replicate (s20.length - i19.toNat) (zo.mk [] [])).take i19.toNat)) else none) else none
noncomputable def y42 (p1:zo→Option (Bool)) (i5:Int) (j6:Int) (l7:(List zo)):Option ((Int×Int×(List zo)) ⊕ ((List zo))):=
 if decide (j6 < (l7.length:Int)) then ((at? l7 j6).bind fun (x10:zo)=>(p1 x10).bind fun r12=>if !r12 then ((at? l7 i5).bind fun (x15:zo)=>z7j j6 (wr (i5+1)) (l7.set i5.toNat x10)) else (z7j j6 i5 l7)) else (Option.map .inr (y1g i5 l7))
noncomputable def z4a (s1:(List zo)) (p1:zo→Option (Bool)):Option ((List zo)):=
 (y50 s1 p1).bind fun r2=>if decide (r2=(-1)) then some s1 else (iter (fun (s:Int×Int×(List zo))=>y42 p1 s.1 s.2.1 s.2.2) (r2,wr (r2+1),s1))
noncomputable def z3w (out24:(List zo)):Option ((List zo) ⊕ ((List zo)×Int)):=
 some (.inl out24)
noncomputable def z04 (k8:Nat) (x11:Bs) (l7:(List zo)):Option ((List zo) ⊕ ((List zo)×Int)):=
 if decide (x11=[]) then (z3w l7) else ((km x11 [61]).bind fun r16=>(Wj r16.1 true).bind fun r18=>(Wj r16.2.1 true).bind fun r20=>if ((!r18.2) || (!r20.2)) then (some (.inr ([],9))) else (if l7.length+1≤1000000000 then (z3w (l7++[(zo.mk r18.1 r20.1)])) else none))
noncomputable def Wd (l7:(List zo)):Option ((List zo)×Int):=
 if decide (100 < (l7.length:Int)) then (some ([],2)) else (some (l7,0))
noncomputable def Wn (s1:Bs):Option ((List zo)×Int):=
 (xj s1).bind fun r2=>if decide (r2≠0) then (some ([],r2)) else ((jq s1 [38]).bind fun r5=>if r5.length≤1000000000 then forL (fun (k:Nat) (x:Bs) (s:(List zo))=>z04 k x s) (fun (s:(List zo))=>Wd s) 0 r5 [] else none)
noncomputable def z8e (p1:zo):Option (Bool):=
 some ((p1.Name == []) && ((p1.Value == []) && true))
noncomputable def z7z (x6:Int) (n7:Int):Option (Int):=
 (at? [0,1,2,2,3,3,3,3,4,4,4,4,4,4,4,4,5,5,5,5,5,5,5,5,5,5,5,5,5,5,5,5,6,6,6,6,6,6,6,6,6,6,6,6,6,6,6,6,6,6,6,6,6,6,6,6,6,6,6,6,6,6,6,6,7,7,7,7,7,7,7,7,7,7,7,7,7,7,7,7,7,7,7,7,7,7,7,7,7,7,7,7,7,7,7,7,7,7,7,7,7,7,7,7,7,7,7,7,7,7,7,7,7,7,7,7,7,7,7,7,7,7,7,7,7,7,7,7,8,8,8,8,8,8,8,8,8,8,8,8,8,8,8,8,8,8,8,8,8,8,8,8,8,8,8,8,8,8,8,8,8,8,8,8,8,8,8,8,8,8,8,8,8,8,8,8,8,8,8,8,8,8,8,8,8,8,8,8,8,8,8,8,8,8,8,8,8,8,8,8,8,8,8,8,8,8,8,8,8,8,8,8,8,8,8,8,8,8,8,8,8,8,8,8,8,8,8,8,8,8,8,8,8,8,8,8,8,8,8,8,8,8,8,8,8,8,8,8,8,8,8,8,8,8,8,8] (IntKind.wrap .u8 x6)).bind fun (x8:UInt8)=>some (wr (n7+(IntKind.wrap .i64 (x8.toNat:Int))))
noncomputable def z71 (x3:Int) (n4:Int):Option (Int):=
 if decide (256≤x3) then (z7z (shr_ .u32 x3 8) (wr (n4+8))) else (z7z x3 n4)
noncomputable def y54 (x1:Int):Option (Int):=
 if decide (65536≤x1) then (z71 (shr_ .u32 x1 16) 16) else (z71 x1 0)
noncomputable def z7w (x9:Int) (n10:Int):Option (Int):=
 (at? [0,1,2,2,3,3,3,3,4,4,4,4,4,4,4,4,5,5,5,5,5,5,5,5,5,5,5,5,5,5,5,5,6,6,6,6,6,6,6,6,6,6,6,6,6,6,6,6,6,6,6,6,6,6,6,6,6,6,6,6,6,6,6,6,7,7,7,7,7,7,7,7,7,7,7,7,7,7,7,7,7,7,7,7,7,7,7,7,7,7,7,7,7,7,7,7,7,7,7,7,7,7,7,7,7,7,7,7,7,7,7,7,7,7,7,7,7,7,7,7,7,7,7,7,7,7,7,7,8,8,8,8,8,8,8,8,8,8,8,8,8,8,8,8,8,8,8,8,8,8,8,8,8,8,8,8,8,8,8,8,8,8,8,8,8,8,8,8,8,8,8,8,8,8,8,8,8,8,8,8,8,8,8,8,8,8,8,8,8,8,8,8,8,8,8,8,8,8,8,8,8,8,8,8,8,8,8,8,8,8,8,8,8,8,8,8,8,8,8,8,8,8,8,8,8,8,8,8,8,8,8,8,8,8,8,8,8,8,8,8,8,8,8,8,8,8,8,8,8,8,8,8,8,8,8,8] (IntKind.wrap .u8 x9)).bind fun (x11:UInt8)=>some (wr (n10+(IntKind.wrap .i64 (x11.toNat:Int))))
noncomputable def z7x (x6:Int) (n7:Int):Option (Int):=
 if decide (256≤x6) then (z7w (shr_ .u64 x6 8) (wr (n7+8))) else (z7w x6 n7)
noncomputable def z7y (x3:Int) (n4:Int):Option (Int):=
 if decide (65536≤x3) then (z7x (shr_ .u64 x3 16) (wr (n4+16))) else (z7x x3 n4)
noncomputable def y53 (x1:Int):Option (Int):=
 if decide (4294967296≤x1) then (z7y (shr_ .u64 x1 32) 32) else (z7y x1 0)
noncomputable def z8g (x1:Int):Option (Int):=
 if false then ((y54 (IntKind.wrap .u32 x1)).bind fun r3=>some r3) else ((y53 x1).bind fun r5=>some r5)
noncomputable def y1e (i4:Int) (data28:(List zo)):Option ((Int×(List zo)) ⊕ ((List zo))):=
 some (.inl (wr (i4+1),data28))
noncomputable def z7i (i4:Int) (j8:Int) (l9:(List zo)) (v20:Bool):Option ((Int×(List zo)) ⊕ ((Int×(List zo)) ⊕ ((List zo)))):=
 if v20 then ((at? l9 (wr (j8 - 1))).bind fun (x22:zo)=>(at? l9 j8).bind fun (x24:zo)=>(at? (l9.set j8.toNat x22) (wr (j8 - 1))).bind fun (x26:zo)=>some (.inl (wr (j8 - 1),((l9.set j8.toNat x22).set ((wr (j8 - 1)).toNat) x24)))) else (Option.map .inr (y1e i4 l9))
noncomputable def y4r (a2:Int) (p3:zo→zo→Option (Int)) (i4:Int) (j8:Int) (l9:(List zo)):Option ((Int×(List zo)) ⊕ ((Int×(List zo)) ⊕ ((List zo)))):=
 if decide (a2 < j8) then ((at? l9 j8).bind fun (x13:zo)=>(at? l9 (wr (j8 - 1))).bind fun (x15:zo)=>(p3 x13 x15).bind fun r17=>z7i i4 j8 l9 (decide (r17 < 0))) else (z7i i4 j8 l9 false)
noncomputable def y4s (a2:Int) (b3:Int) (p3:zo→zo→Option (Int)) (i4:Int) (l5:(List zo)):Option ((Int×(List zo)) ⊕ ((List zo))):=
 if decide (i4 < b3) then (iter (fun (s:Int×(List zo))=>y4r a2 p3 i4 s.1 s.2) (i4,l5)) else (some (.inr l5))
noncomputable def z73 (data1:(List zo)) (a2:Int) (b3:Int) (p3:zo→zo→Option (Int)):Option ((List zo)):=
 iter (fun (s:Int×(List zo))=>y4s a2 b3 p3 s.1 s.2) (wr (a2+1),data1)
noncomputable def y4q (v1:(List zo)) (p4:zo→zo→Option (Int)) (v5:Int) (v6:Int) (v7:Int) (v8:Bool) (v9:Bool):Option ((Int×Int×Int×Bool×Bool) ⊕ ((List zo))):=
 if decide ((wr (v6 - v5))≤12) then ((z73 v1 v5 v6 p4).bind fun r12=>if r12.length=v1.length then (some (.inr r12)) else none) else (if decide (v7=0) then none else none)
noncomputable def y2f (v1:(List zo)) (v2:Int) (v3:Int) (v4:Int) (p4:zo→zo→Option (Int)):Option ((List zo)):=
 iter (fun (s:Int×Int×Int×Bool×Bool)=>y4q v1 p4 s.1 s.2.1 s.2.2.1 s.2.2.2.1 s.2.2.2.2) (v2,v3,v4,true,true)
noncomputable def z77 (x1:(List zo)) (p1:zo→zo→Option (Int)):Option ((List zo)):=
 (z8g (IntKind.wrap .u64 (x1.length:Int))).bind fun r2=>(y2f x1 0 (x1.length:Int) r2 p1).bind fun r4=>if r4.length=x1.length then some r4 else none
noncomputable def xk (a1:zo) (b2:zo):Option (Int):=
 if decide (a1.Name≠b2.Name) then ((z35 a1.Name b2.Name).bind fun r4=>some r4) else ((z35 a1.Value b2.Value).bind fun r6=>some r6)
noncomputable def z0y (l22:(List Int)):Option ((List Int) ⊕ (Bs)):=
 some (.inl l22)
noncomputable def z0x (k3:Nat) (x6:UInt8) (l2:(List Int)):Option ((List Int) ⊕ (Bs)):=
 if decide ((x6.toNat:Int)=32) then ((Zc l2 43).bind fun r11=>z0y r11.2) else ((Zu (x6.toNat:Int)).bind fun r13=>if r13 then ((Zc l2 (x6.toNat:Int)).bind fun r16=>z0y r16.2) else ((Zt (x6.toNat:Int)).bind fun r18=>(z36 l2 r18).bind fun r20=>z0y r20.2.2))
noncomputable def z3n (l2:(List Int)):Option (Bs):=
 if byR l2=true then (some (strN l2)) else none
noncomputable def z4c (s1:Bs):Option (Bs):=
 if s1.length≤1000000000 then forL (fun (k:Nat) (x:UInt8) (s:(List Int))=>z0x k x s) (fun (s:(List Int))=>z3n s) 0 s1 ([]:List Int) else none
noncomputable def z7u (k4:Nat) (x7:zo) (l3:(List Bs)):Option ((List Bs) ⊕ (Bs×Int)):=
 if ((x7.Name == []) && ((x7.Value == []) && true)) then (some (.inr ([],3))) else ((z4c x7.Name).bind fun r14=>if r14.length+[61].length≤1000000000 then ((z4c x7.Value).bind fun r17=>if (r14++[61]).length+r17.length≤1000000000 then (if l3.length+1≤1000000000 then (some (.inl (l3++([((r14++[61])++r17)])))) else none) else none) else none)
noncomputable def y14 (l3:(List Bs)):Option (Bs×Int):=
 (jr l3 [38]).bind fun r8=>if decide (1000 < (r8.length:Int)) then (some ([],2)) else (some (r8,0))
noncomputable def Wl (l1:(List zo)):Option (Bs×Int):=
 if decide (100 < (l1.length:Int)) then (some ([],2)) else (if l1.length≤1000000000 then forL (fun (k:Nat) (x:zo) (s:(List Bs))=>z7u k x s) (fun (s:(List Bs))=>y14 s) 0 l1 [] else none)
noncomputable def z05 (k26:Nat) (l25:(List zn)):Option ((List zn) ⊕ (zz×Int)):=
 (l25[k26]?).bind fun (x30:zn)=>(jo x30.Name).bind fun r32=>some (.inl (l25.set k26 (zn.mk r32 x30.Value)))
noncomputable def y15 (v1:zz) (r5:(Bs×Int)) (r7:(Bs×Int)) (r18:(Bs×Int)) (r21:(Bs)) (l25:(List zn)):Option (zz×Int):=
 some ((zz.mk v1.At r21 r5.1 r7.1 r18.1 v1.From l25 v1.Body),0)
noncomputable def Wp (v1:zz):Option (zz×Int):=
 (uj v1).bind fun r2=>if decide (r2≠0) then (some ((zz.mk 0 [] [] [] [] [] [] []),r2)) else ((z4g v1.Host).bind fun r5=>(z8f v1.Path).bind fun r7=>if decide (r7.2≠0) then (some ((zz.mk 0 [] [] [] [] [] [] []),r7.2)) else ((Wn v1.Query).bind fun r10=>if decide (r10.2≠0) then (some ((zz.mk 0 [] [] [] [] [] [] []),r10.2)) else ((z4a r10.1 (fun (a0:zo)=>z8e a0)).bind fun r13=>(z77 r13 (fun (a0:zo) (a1:zo)=>xk a0 a1)).bind fun r15=>if r15.length=r13.length then ((Wl r15).bind fun r18=>if decide (r18.2≠0) then (some ((zz.mk 0 [] [] [] [] [] [] []),r18.2)) else ((z33 v1.Method).bind fun r21=>(uz v1.Headers).bind fun r23=>if r23.length≤1000000000 then rng (fun (k:Nat) (s:(List zn))=>z05 k s) (fun (s:(List zn))=>y15 v1 r5 r7 r18 r21 s) r23.length 0 r23 else none)) else none)))
noncomputable def z6u (r3:(zz×Int)) (e8:Int) (c9:Int) (c10:Bs) (c11:Bs) (c12:Bs) (c13:Bs) (c14:Bs) (c15:(List zn)) (c16:Bs):Option (zz×zz×Int):=
 some (r3.1,(zz.mk c9 c10 c11 c12 c13 c14 c15 c16),e8)
noncomputable def z8z (a1:zz) (b2:zz):Option (zz×zz×Int):=
 (Wp a1).bind fun r3=>if decide (r3.2=0) then ((Wp b2).bind fun r6=>z6u r3 r6.2 r6.1.At r6.1.Method r6.1.Host r6.1.Path r6.1.Query r6.1.From r6.1.Headers r6.1.Body) else (z6u r3 r3.2 0 [] [] [] [] [] ([]:(List zn)) [])
noncomputable def y4v (p1:Bs→Option (Bool)) (k2:Nat) (x5:Bs):Option (Unit ⊕ (Int)):=
 (p1 x5).bind fun r8=>if r8 then (some (.inr (k2:Int))) else (some (.inl ()))
noncomputable def y4w:Option (Int):=
 some (-1)
noncomputable def y5z (s1:(List Bs)) (p1:Bs→Option (Bool)):Option (Int):=
 if s1.length≤1000000000 then forL (fun (k:Nat) (x:Bs) (s:Unit)=>y4v p1 k x) (fun (s:Unit)=>y4w) 0 s1 () else none
noncomputable def z1a (s1:(List Bs)) (p1:Bs→Option (Bool)):Option (Bool):=
 (y5z s1 p1).bind fun r2=>some (decide (0≤r2))
noncomputable def y1f (s2:(List Bs)) (k4:Nat) (x7:Bs):Option (Unit ⊕ (Bool)):=
 (s2[k4]?).bind fun (x10:Bs)=>if decide (x7≠x10) then (some (.inr false)) else (some (.inl ()))
noncomputable def y41:Option (Bool):=
 some true
noncomputable def z39 (s1:(List Bs)) (s2:(List Bs)):Option (Bool):=
 if decide ((s1.length:Int)≠(s2.length:Int)) then some false else (if s1.length≤1000000000 then forL (fun (k:Nat) (x:Bs) (s:Unit)=>y1f s2 k x) (fun (s:Unit)=>y41) 0 s1 () else none)
noncomputable def z1n (n1:Bs) (c2:zz) (c3:zz):Option (Bool):=
 (kw c2.Headers n1).bind fun r4=>(kw c3.Headers n1).bind fun r6=>(z39 r4 r6).bind fun r8=>some (!r8)
noncomputable def z42 (own1:zz) (a2:qc) (r3:zz):Option (Bool):=
 if ((((decide (own1.Host≠r3.Host)) || (decide (own1.Path≠r3.Path))) || (decide (own1.Query≠r3.Query))) || ((decide (own1.Method≠r3.Method)) && (!((decide (own1.Method=[71,69,84])) && (decide (r3.Method=[72,69,65,68])))))) then some false else ((Zz a2).bind fun r5=>if (r5.2.1 || (decide (r5.2.2≠0))) then some false else ((z1a r5.1 (fun (a0:Bs)=>z1n a0 own1 r3)).bind fun r8=>some (!r8)))
noncomputable def z0l (e1:qr) (v2:Int) (n11:Int):Option (Int):=
 some (wr ((wr (v2 - e1.At))+(wr (n11 * 1000))))
noncomputable def z45 (e1:qr) (v2:Int):Option (Int):=
 (kw e1.Response.Headers [97,103,101]).bind fun r3=>if decide (0 < (r3.length:Int)) then ((r3[0]?).bind fun (x6:Bs)=>(z43 x6).bind fun r8=>if r8.2 then (z0l e1 v2 r8.1) else (z0l e1 v2 0)) else (z0l e1 v2 0)
noncomputable def Wz (c1:zy):Option (Int):=
 if c1.NoCache then some 0 else (if decide (c1.Shared≠(-1)) then (some (wr (c1.Shared * 1000))) else (if decide (c1.MaxAge≠(-1)) then (some (wr (c1.MaxAge * 1000))) else some 0))
noncomputable def y2q (n1:Int) (most2:Int):Option (Bool):=
 some ((decide (most2=(-1))) || (decide (n1≤(wr (most2 * 1000)))))
noncomputable def Qn (v1:zy) (v2:zy) (v3:Int) (r4:(Int)) (v19:Bool):Option (Int):=
 if v19 then some 1 else (if ((decide ((wr (v3 - r4)) < 0)) || v2.Must) then some 3 else (if ((decide (v1.MaxStale≠(-1))) && (decide ((wr (v3 - r4))≤(wr (v1.MaxStale * 1000))))) then some 1 else (if (((decide (v2.Stale≠(-1))) && (decide ((wr (v3 - r4)) < (wr (v2.Stale * 1000))))) && (decide (v1.MaxAge=(-1)))) then some 2 else some 3)))
noncomputable def z44 (v1:zy) (v2:zy) (v3:Int):Option (Int):=
 (Wz v2).bind fun r4=>if (v1.NoCache || v2.NoCache) then some 3 else (if decide ((wr (v3 - r4)) < 0) then ((y2q v3 v1.MaxAge).bind fun r9=>if r9 then (if decide (v1.MinFresh=(-1)) then (Qn v1 v2 v3 r4 true) else (if -9223372036854775807≤v1.MinFresh∧v1.MinFresh≤9223372036854775807 then (Qn v1 v2 v3 r4 (decide ((wr (v3 - r4))≤(wr ((-v1.MinFresh) * 1000))))) else none)) else (Qn v1 v2 v3 r4 false)) else (Qn v1 v2 v3 r4 false))
noncomputable def z47 (v1:qr) (v2:zz):Option (Int×Int):=
 (y2o v1 v2).bind fun r3=>if decide (r3≠0) then (some (0,r3)) else ((Zd v2.Headers).bind fun r6=>if decide (r6.2≠0) then (some (0,r6.2)) else ((Zd v1.Response.Headers).bind fun r9=>if decide (r9.2≠0) then (some (0,r9.2)) else (if decide (v2.At < v1.At) then (some (0,7)) else ((z8z v1.Request v2).bind fun r13=>if decide (r13.2.2≠0) then (some (0,r13.2.2)) else ((z42 r13.1 v1.Response r13.2.1).bind fun r16=>if !r16 then (some (0,13)) else ((z45 (qr.mk v1.Request v1.Response v1.At v1.Tags v1.Used) v2.At).bind fun r19=>(z44 (zy.mk r6.1.NoStore r6.1.NoCache r6.1.Private r6.1.Public r6.1.Must r6.1.Only r6.1.MaxAge r6.1.Shared r6.1.Stale r6.1.OnError r6.1.MaxStale r6.1.MinFresh) r9.1 r19).bind fun r21=>some (r21,0)))))))
noncomputable def ko (n1:Int) (low2:Int) (high3:Int):Option (Bool):=
 some ((decide (low2≤n1)) && (decide (n1≤high3)))
noncomputable def z4u (v1:Int):Option (Bool):=
 (ko v1 0 345686399999).bind fun r2=>some r2
noncomputable def y3i (some2:Bs) (k3:Nat) (x6:UInt8):Option (Unit ⊕ (Bool)):=
 (z09 some2 (x6.toNat:Int)).bind fun r9=>if decide (r9 < 0) then (some (.inr false)) else (some (.inl ()))
noncomputable def y65:Option (Bool):=
 some true
noncomputable def xa (s1:Bs) (some2:Bs):Option (Bool):=
 if s1.length≤1000000000 then forL (fun (k:Nat) (x:UInt8) (s:Unit)=>y3i some2 k x) (fun (s:Unit)=>y65) 0 s1 () else none
noncomputable def z5z (v9:Bool):Option (Bool):=
 some v9
noncomputable def Wt (s1:Bs):Option (Bool):=
 (ko (s1.length:Int) 1 100).bind fun r2=>if r2 then ((xa s1 [97,98,99,100,101,102,103,104,105,106,107,108,109,110,111,112,113,114,115,116,117,118,119,120,121,122,65,66,67,68,69,70,71,72,73,74,75,76,77,78,79,80,81,82,83,84,85,86,87,88,89,90,48,49,50,51,52,53,54,55,56,57,33,35,36,37,38,39,42,43,45,46,94,95,96,124,126]).bind fun r6=>z5z r6) else (z5z false)
noncomputable def z55 (r15:(Int×Int)) (v22:Bool):Option (Int×Bool):=
 some (r15.1,v22)
noncomputable def Zg (s1:Bs) (v13:Bool):Option (Int×Bool):=
 if v13 then (some (0,false)) else ((Yw s1).bind fun r15=>if decide (r15.2=0) then ((y2d r15.1).bind fun r19=>z55 r15 (decide (r19=s1))) else (z55 r15 false))
noncomputable def Zx (s1:Bs) (most2:Int):Option (Int×Bool):=
 (z32 s1 [45]).bind fun r3=>if decide (r3=[]) then (Zg s1 true) else (if decide (most2 < (r3.length:Int)) then (Zg s1 true) else ((xa r3 [48,49,50,51,52,53,54,55,56,57]).bind fun r9=>Zg s1 (!r9)))
noncomputable def z9s (v30:Bs):Option (Bs×Int):=
 some (v30,0)
noncomputable def Qj (v45:Bool):Option (Unit ⊕ (Bs×Int)):=
 if v45 then (some (.inr ([],3))) else (some (.inl ()))
noncomputable def z56 (k21:Nat) (x24:Bs):Option (Unit ⊕ (Bs×Int)):=
 (ko (x24.length:Int) 1 63).bind fun r33=>if !r33 then (Qj true) else ((xa x24 [97,98,99,100,101,102,103,104,105,106,107,108,109,110,111,112,113,114,115,116,117,118,119,120,121,122,65,66,67,68,69,70,71,72,73,74,75,76,77,78,79,80,81,82,83,84,85,86,87,88,89,90,48,49,50,51,52,53,54,55,56,57,45]).bind fun r37=>if !r37 then (Qj true) else ((Yv x24 [45]).bind fun r41=>Qj (decide (r41≠x24))))
noncomputable def z57 (r2:(Bs×Bs×Bool)) (r4:(Int×Bool)):Option (Bs×Int):=
 (jo r2.1).bind fun r25=>if ((r2.2.2 && (decide (r4.1≠80))) && (decide (r4.1≠443))) then (if [58].length+r2.2.1.length≤1000000000 then (if r25.length+([58]++r2.2.1).length≤1000000000 then (z9s (r25++([58]++r2.2.1))) else none) else none) else (z9s r25)
noncomputable def Qk (r2:(Bs×Bs×Bool)) (r4:(Int×Bool)) (v17:Bool):Option (Bs×Int):=
 if v17 then (some ([],3)) else ((jq r2.1 [46]).bind fun r19=>if r19.length≤1000000000 then forL (fun (k:Nat) (x:Bs) (s:Unit)=>z56 k x) (fun (s:Unit)=>z57 r2 r4) 0 r19 () else none)
noncomputable def Ww (v1:Bs):Option (Bs×Int):=
 (km v1 [58]).bind fun r2=>(Zx r2.2.1 5).bind fun r4=>if decide (255 < (v1.length:Int)) then (Qk r2 r4 true) else (if r2.2.2 then (if !r4.2 then (Qk r2 r4 true) else ((ko r4.1 1 65535).bind fun r12=>Qk r2 r4 (!r12))) else (Qk r2 r4 false))
noncomputable def z5t (v12:Bool):Option (Unit ⊕ (Bool)):=
 if v12 then (some (.inr false)) else (some (.inl ()))
noncomputable def y3f (low2:Int) (k3:Nat) (x6:UInt8):Option (Unit ⊕ (Bool)):=
 if decide ((x6.toNat:Int) < low2) then (z5t true) else (z5t (decide (126 < (x6.toNat:Int))))
noncomputable def y64:Option (Bool):=
 some true
noncomputable def Yz (s1:Bs) (low2:Int):Option (Bool):=
 if s1.length≤1000000000 then forL (fun (k:Nat) (x:UInt8) (s:Unit)=>y3f low2 k x) (fun (s:Unit)=>y64) 0 s1 () else none
noncomputable def z0d (v19:Bool):Option (Bool):=
 some v19
noncomputable def z4n (s1:Bs):Option (Bool):=
 (ko (s1.length:Int) 1 1000).bind fun r2=>if r2 then ((s1[0]?).bind fun (x6:UInt8)=>if decide ((x6.toNat:Int)=47) then ((Yz s1 33).bind fun r10=>if r10 then ((z34 s1 [63,35]).bind fun r14=>z0d (!r14)) else (z0d false)) else (z0d false)) else (z0d false)
noncomputable def Zf (v12:Bool):Option (Bool):=
 some v12
noncomputable def xl (s1:Bs):Option (Bool):=
 if decide ((s1.length:Int)≤1000) then ((Yz s1 33).bind fun r4=>if r4 then ((Wh s1 [35]).bind fun r8=>Zf (!r8)) else (Zf false)) else (Zf false)
noncomputable def z58 (v12:Bool):Option (Bool):=
 some v12
noncomputable def z8o (s1:Bs):Option (Bool):=
 if decide ((s1.length:Int)≤2000) then ((Yz s1 32).bind fun r4=>if r4 then ((Yv s1 [32]).bind fun r8=>z58 (decide (r8=s1))) else (z58 false)) else (z58 false)
noncomputable def y3m (k3:Nat) (x6:zn):Option (Unit ⊕ (Int)):=
 (Wt x6.Name).bind fun r9=>if !r9 then (some (.inr 5)) else ((z8o x6.Value).bind fun r12=>if !r12 then (some (.inr 3)) else (some (.inl ())))
noncomputable def y3n:Option (Int):=
 some 0
noncomputable def z4v (l1:(List zn)):Option (Int):=
 if decide (50 < (l1.length:Int)) then some 2 else (if l1.length≤1000000000 then forL (fun (k:Nat) (x:zn) (s:Unit)=>y3m k x) (fun (s:Unit)=>y3n) 0 l1 () else none)
noncomputable def z12 (r1:zz) (v23:Bool):Option (Int):=
 if v23 then some 3 else ((z4v r1.Headers).bind fun r25=>if decide (r25≠0) then some r25 else (if decide (20000 < (r1.Body.length:Int)) then some 2 else some 0))
noncomputable def Zw (r1:zz):Option (Int):=
 (z4u r1.At).bind fun r2=>if !r2 then some 1 else ((Wt r1.Method).bind fun r5=>if !r5 then some 5 else ((Ww r1.Host).bind fun r8=>if decide (r8.2≠0) then some r8.2 else ((z4n r1.Path).bind fun r11=>if !r11 then (z12 r1 true) else ((xl r1.Query).bind fun r15=>if !r15 then (z12 r1 true) else ((z8o r1.From).bind fun r19=>z12 r1 (!r19))))))
noncomputable def z4r (a1:qc):Option (Int):=
 (ko a1.Status 100 599).bind fun r2=>if !r2 then some 1 else ((z4v a1.Headers).bind fun r5=>if decide (r5≠0) then some r5 else (if decide (20000 < (a1.Body.length:Int)) then some 2 else some 0))
noncomputable def z8k (a1:Bs) (b2:Bs):Option (Bool):=
 (jo a1).bind fun r3=>(jo b2).bind fun r5=>some (decide (r3=r5))
noncomputable def z5y (out14:(List Bs)):Option ((List Bs) ⊕ ((List Bs))):=
 some (.inl out14)
noncomputable def z11 (name2:Bs) (k4:Nat) (x7:zn) (l3:(List Bs)):Option ((List Bs) ⊕ ((List Bs))):=
 (z8k x7.Name name2).bind fun r10=>if r10 then (if l3.length+1≤1000000000 then (z5y (l3++[x7.Value])) else none) else (z5y l3)
noncomputable def y3j (l3:(List Bs)):Option ((List Bs)):=
 some l3
noncomputable def xm (l1:(List zn)) (name2:Bs):Option ((List Bs)):=
 if l1.length≤1000000000 then forL (fun (k:Nat) (x:zn) (s:(List Bs))=>z11 name2 k x s) (fun (s:(List Bs))=>y3j s) 0 l1 [] else none
noncomputable def z5v (out17:(List Bs)):Option ((List Bs) ⊕ ((List Bs))):=
 some (.inl out17)
noncomputable def z1y (k7:Nat) (x10:Bs) (l6:(List Bs)):Option ((List Bs) ⊕ ((List Bs))):=
 (Yv x10 [32]).bind fun r13=>if decide (r13≠[]) then (if l6.length+1≤1000000000 then (z5v (l6++[r13])) else none) else (z5v l6)
noncomputable def y3h (l6:(List Bs)):Option ((List Bs)):=
 some l6
noncomputable def z4o (values1:(List Bs)):Option ((List Bs)):=
 (jr values1 [44]).bind fun r2=>(jq r2 [44]).bind fun r4=>if r4.length≤1000000000 then forL (fun (k:Nat) (x:Bs) (s:(List Bs))=>z1y k x s) (fun (s:(List Bs))=>y3h s) 0 r4 [] else none
noncomputable def z10 (k8:Nat) (x11:Bs) (all6:Bool) (l7:(List Bs)):Option ((Bool×(List Bs)) ⊕ ((List Bs)×Bool×Int)):=
 (Wt x11).bind fun r20=>if !r20 then (some (.inr ([],false,9))) else ((jo x11).bind fun r23=>if l7.length+1≤1000000000 then (some (.inl ((all6 || (decide (x11=[42]))),(l7++[r23])))) else none)
noncomputable def z5x (all6:Bool) (l7:(List Bs)):Option ((List Bs)×Bool×Int):=
 if all6 then (some ([],true,0)) else ((Zs l7).bind fun r13=>(z1b r13).bind fun r15=>if decide (10 < (r15.length:Int)) then (some ([],false,2)) else (some (r15,false,0)))
noncomputable def z4q (a1:qc):Option ((List Bs)×Bool×Int):=
 (xm a1.Headers [118,97,114,121]).bind fun r2=>(z4o r2).bind fun r4=>if r4.length≤1000000000 then forL (fun (k:Nat) (x:Bs) (s:Bool×(List Bs))=>z10 k x s.1 s.2) (fun (s:Bool×(List Bs))=>z5x s.1 s.2) 0 r4 (false,[]) else none
noncomputable def z19 (v16:Bool):Option (Bool):=
 some v16
noncomputable def z8n (s1:Bs):Option (Bool):=
 (ko (s1.length:Int) 1 40).bind fun r2=>if r2 then ((sub? s1 0 1).bind fun (l6:Bs)=>(xa l6 [97,98,99,100,101,102,103,104,105,106,107,108,109,110,111,112,113,114,115,116,117,118,119,120,121,122]).bind fun r8=>if r8 then ((xa s1 [97,98,99,100,101,102,103,104,105,106,107,108,109,110,111,112,113,114,115,116,117,118,119,120,121,122,48,49,50,51,52,53,54,55,56,57,45,95]).bind fun r12=>z19 r12) else (z19 false)) else (z19 false)
noncomputable def z6b (v36:Bool):Option (Unit ⊕ (Int)):=
 if v36 then (some (.inr 7)) else (some (.inl ()))
noncomputable def z6a (v1:qr) (k20:Nat) (x23:Bs):Option (Unit ⊕ (Int)):=
 (z8n x23).bind fun r28=>if !r28 then (some (.inr 5)) else (if decide (0 < (k20:Int)) then ((at? v1.Tags ((k20:Int) - 1)).bind fun (x33:Bs)=>z6b (Op.bytesLess x23 x33 || x23 == x33)) else (z6b false))
noncomputable def z6c (v1:qr):Option (Int):=
 (z4q v1.Response).bind fun r24=>some r24.2.2
noncomputable def z0f (v1:qr) (v17:Bool):Option (Int):=
 if v17 then some 1 else (if decide (20 < (v1.Tags.length:Int)) then some 2 else (if v1.Tags.length≤1000000000 then forL (fun (k:Nat) (x:Bs) (s:Unit)=>z6a v1 k x) (fun (s:Unit)=>z6c v1) 0 v1.Tags () else none))
noncomputable def z9t (k6:Nat) (x9:Int):Option (Unit ⊕ (Int)):=
 if decide (x9≠0) then (some (.inr x9)) else (some (.inl ()))
noncomputable def z6d (v1:qr):Option (Int):=
 (z4u v1.At).bind fun r10=>if !r10 then (z0f v1 true) else ((z4u v1.Used).bind fun r14=>z0f v1 (!r14))
noncomputable def z4w (v1:qr):Option (Int):=
 (Zw v1.Request).bind fun r2=>(z4r v1.Response).bind fun r4=>if [r2,r4].length≤1000000000 then forL (fun (k:Nat) (x:Int) (s:Unit)=>z9t k x) (fun (s:Unit)=>z6d v1) 0 [r2,r4] () else none
noncomputable def z2p (k2:Nat) (x5:Int):Option (Unit ⊕ (Int)):=
 if decide (x5≠0) then (some (.inr x5)) else (some (.inl ()))
noncomputable def y3p:Option (Int):=
 some 0
noncomputable def z8w (l1:(List Int)):Option (Int):=
 if l1.length≤1000000000 then forL (fun (k:Nat) (x:Int) (s:Unit)=>z2p k x) (fun (s:Unit)=>y3p) 0 l1 () else none
noncomputable def z8j  : Option ((List Int)):=
 some ([6,7,8,9,10,11]:List Int)
noncomputable def y2j  : Option ((List Bs)):=
 some ([[110,111,45,115,116,111,114,101],[110,111,45,99,97,99,104,101],[112,114,105,118,97,116,101],[112,117,98,108,105,99],[109,117,115,116,45,114,101,118,97,108,105,100,97,116,101],[111,110,108,121,45,105,102,45,99,97,99,104,101,100]])
noncomputable def y2i  : Option ((List Int)):=
 some ([0,1,2,3,4,5]:List Int)
noncomputable def y2l  : Option ((List Bs)):=
 some ([[109,97,120,45,97,103,101],[115,45,109,97,120,97,103,101],[115,116,97,108,101,45,119,104,105,108,101,45,114,101,118,97,108,105,100,97,116,101],[115,116,97,108,101,45,105,102,45,101,114,114,111,114],[109,97,120,45,115,116,97,108,101],[109,105,110,45,102,114,101,115,104]])
noncomputable def z0h (c102:Bool) (c103:Bool) (c104:Bool) (c105:Bool) (c106:Bool) (c107:Bool) (c108:Int) (c109:Int) (c110:Int) (c111:Int) (c112:Int) (c113:Int):Option ((Bool×Bool×Int×Int×Bool×Bool×Bool×Bool×Int×Int×Int×Int) ⊕ (zy×Int)):=
 some (.inl (c102,c103,c112,c113,c104,c105,c106,c107,c108,c109,c110,c111))
noncomputable def z0g (r42:(Bs×Bs×Bool)) (r44:(Int×Bool)) (r61:(Bs)) (c76:Bool) (c77:Bool) (c78:Bool) (c79:Bool) (c80:Bool) (c81:Bool) (c82:Int) (c83:Int) (c84:Int) (c85:Int) (c86:Int) (c87:Int):Option ((Bool×Bool×Int×Int×Bool×Bool×Bool×Bool×Int×Int×Int×Int) ⊕ (zy×Int)):=
 (y2l ).bind fun r88=>(Yx r88 r61).bind fun r90=>if decide (0≤r90) then (if !r42.2.2 then (some (.inr ((zy.mk false false false false false false 0 0 0 0 0 0),9))) else ((z8j).bind fun r94=>(at? r94 r90).bind fun (x96:Int)=>if xb x96=true then (if ((decide ((vx (zy.mk c76 c77 c78 c79 c80 c81 c82 c83 c84 c85 c86 c87) x96) < 0)) || (decide (r44.1 < (vx (zy.mk c76 c77 c78 c79 c80 c81 c82 c83 c84 c85 c86 c87) x96)))) then ((some (xh (zy.mk c76 c77 c78 c79 c80 c81 c82 c83 c84 c85 c86 c87) x96 r44.1)).bind fun (c100:zy)=>z0h c100.NoStore c100.NoCache c100.Private c100.Public c100.Must c100.Only c100.MaxAge c100.Shared c100.Stale c100.OnError c100.MaxStale c100.MinFresh) else (z0h c76 c77 c78 c79 c80 c81 c82 c83 c84 c85 c86 c87)) else none)) else (z0h c76 c77 c78 c79 c80 c81 c82 c83 c84 c85 c86 c87)
noncomputable def Yf (c24:Bool) (c25:Bool) (c26:Int) (c27:Int) (c28:Bool) (c29:Bool) (c30:Bool) (c31:Bool) (c32:Int) (c33:Int) (c34:Int) (c35:Int) (r42:(Bs×Bs×Bool)) (r44:(Int×Bool)) (v59:Bool):Option ((Bool×Bool×Int×Int×Bool×Bool×Bool×Bool×Int×Int×Int×Int) ⊕ (zy×Int)):=
 if v59 then (some (.inr ((zy.mk false false false false false false 0 0 0 0 0 0),9))) else ((jo r42.1).bind fun r61=>(y2j ).bind fun r63=>(Yx r63 r61).bind fun r65=>if decide (0≤r65) then ((y2i).bind fun r68=>(at? r68 r65).bind fun (x70:Int)=>if z90 x70=true then ((some (ku (zy.mk c24 c25 c28 c29 c30 c31 c32 c33 c34 c35 c26 c27) x70 true)).bind fun (c73:zy)=>if r42.2.2 then (some (.inr ((zy.mk false false false false false false 0 0 0 0 0 0),9))) else (z0g r42 r44 r61 c73.NoStore c73.NoCache c73.Private c73.Public c73.Must c73.Only c73.MaxAge c73.Shared c73.Stale c73.OnError c73.MaxStale c73.MinFresh)) else none) else (z0g r42 r44 r61 c24 c25 c28 c29 c30 c31 c32 c33 c34 c35 c26 c27))
noncomputable def z6e (k36:Nat) (x39:Bs) (c24:Bool) (c25:Bool) (c26:Int) (c27:Int) (c28:Bool) (c29:Bool) (c30:Bool) (c31:Bool) (c32:Int) (c33:Int) (c34:Int) (c35:Int):Option ((Bool×Bool×Int×Int×Bool×Bool×Bool×Bool×Int×Int×Int×Int) ⊕ (zy×Int)):=
 (km x39 [61]).bind fun r42=>(Zx r42.2.1 9).bind fun r44=>(Wt r42.1).bind fun r46=>if !r46 then (Yf c24 c25 c26 c27 c28 c29 c30 c31 c32 c33 c34 c35 r42 r44 true) else (if r42.2.2 then (if !r44.2 then (Yf c24 c25 c26 c27 c28 c29 c30 c31 c32 c33 c34 c35 r42 r44 true) else ((ko r44.1 0 100000000).bind fun r54=>Yf c24 c25 c26 c27 c28 c29 c30 c31 c32 c33 c34 c35 r42 r44 (!r54))) else (Yf c24 c25 c26 c27 c28 c29 c30 c31 c32 c33 c34 c35 r42 r44 false))
noncomputable def y3o (c24:Bool) (c25:Bool) (c26:Int) (c27:Int) (c28:Bool) (c29:Bool) (c30:Bool) (c31:Bool) (c32:Int) (c33:Int) (c34:Int) (c35:Int):Option (zy×Int):=
 some ((zy.mk c24 c25 c28 c29 c30 c31 c32 c33 c34 c35 c26 c27),0)
noncomputable def y67 (k16:Nat) (x19:Int) (c4:Bool) (c5:Bool) (c6:Int) (c7:Int) (c8:Bool) (c9:Bool) (c10:Bool) (c11:Bool) (c12:Int) (c13:Int) (c14:Int) (c15:Int):Option ((Bool×Bool×Int×Int×Bool×Bool×Bool×Bool×Int×Int×Int×Int) ⊕ (zy×Int)):=
 if xb x19=true then ((some (xh (zy.mk c4 c5 c8 c9 c10 c11 c12 c13 c14 c15 c6 c7) x19 (-1))).bind fun (c117:zy)=>some (.inl (c117.NoStore,c117.NoCache,c117.MaxStale,c117.MinFresh,c117.Private,c117.Public,c117.Must,c117.Only,c117.MaxAge,c117.Shared,c117.Stale,c117.OnError))) else none
noncomputable def z9u (v1:(List zn)) (c4:Bool) (c5:Bool) (c6:Int) (c7:Int) (c8:Bool) (c9:Bool) (c10:Bool) (c11:Bool) (c12:Int) (c13:Int) (c14:Int) (c15:Int):Option (zy×Int):=
 (xm v1 [99,97,99,104,101,45,99,111,110,116,114,111,108]).bind fun r20=>(z4o r20).bind fun r22=>if r22.length≤1000000000 then forL (fun (k:Nat) (x:Bs) (s:Bool×Bool×Int×Int×Bool×Bool×Bool×Bool×Int×Int×Int×Int)=>z6e k x s.1 s.2.1 s.2.2.1 s.2.2.2.1 s.2.2.2.2.1 s.2.2.2.2.2.1 s.2.2.2.2.2.2.1 s.2.2.2.2.2.2.2.1 s.2.2.2.2.2.2.2.2.1 s.2.2.2.2.2.2.2.2.2.1 s.2.2.2.2.2.2.2.2.2.2.1 s.2.2.2.2.2.2.2.2.2.2.2) (fun (s:Bool×Bool×Int×Int×Bool×Bool×Bool×Bool×Int×Int×Int×Int)=>y3o s.1 s.2.1 s.2.2.1 s.2.2.2.1 s.2.2.2.2.1 s.2.2.2.2.2.1 s.2.2.2.2.2.2.1 s.2.2.2.2.2.2.2.1 s.2.2.2.2.2.2.2.2.1 s.2.2.2.2.2.2.2.2.2.1 s.2.2.2.2.2.2.2.2.2.2.1 s.2.2.2.2.2.2.2.2.2.2.2) 0 r22 (c4,c5,c6,c7,c8,c9,c10,c11,c12,c13,c14,c15) else none
noncomputable def z1k (v1:(List zn)):Option (zy×Int):=
 (z8j).bind fun r2=>if r2.length≤1000000000 then forL (fun (k:Nat) (x:Int) (s:Bool×Bool×Int×Int×Bool×Bool×Bool×Bool×Int×Int×Int×Int)=>y67 k x s.1 s.2.1 s.2.2.1 s.2.2.2.1 s.2.2.2.2.1 s.2.2.2.2.2.1 s.2.2.2.2.2.2.1 s.2.2.2.2.2.2.2.1 s.2.2.2.2.2.2.2.2.1 s.2.2.2.2.2.2.2.2.2.1 s.2.2.2.2.2.2.2.2.2.2.1 s.2.2.2.2.2.2.2.2.2.2.2) (fun (s:Bool×Bool×Int×Int×Bool×Bool×Bool×Bool×Int×Int×Int×Int)=>z9u v1 s.1 s.2.1 s.2.2.1 s.2.2.2.1 s.2.2.2.2.1 s.2.2.2.2.2.1 s.2.2.2.2.2.2.1 s.2.2.2.2.2.2.2.1 s.2.2.2.2.2.2.2.2.1 s.2.2.2.2.2.2.2.2.2.1 s.2.2.2.2.2.2.2.2.2.2.1 s.2.2.2.2.2.2.2.2.2.2.2) 0 r2 (false,false,0,0,false,false,false,false,0,0,0,0) else none
noncomputable def y3g (out21:(List wl)):Option ((List wl)×Bool):=
 some (out21,true)
noncomputable def ua (s2:Bs) (l3:(List wl)):Option ((Bs×(List wl)) ⊕ ((List wl)×Bool)):=
 if decide (s2≠[]) then ((s2[0]?).bind fun (x6:UInt8)=>if decide ((x6.toNat:Int)≠37) then (if l3.length+1≤1000000000 then ((sub? s2 1 (s2.length:Int)).bind fun (l10:Bs)=>some (.inl (l10,(l3++[(wl.mk (x6.toNat:Int) true)])))) else none) else (if decide ((s2.length:Int) < 3) then (some (.inr ([],false))) else ((sub? s2 1 3).bind fun (l13:Bs)=>(z38 l13 16 8).bind fun r15=>if decide (r15.2≠0) then (some (.inr ([],false))) else (if l3.length+1≤1000000000 then ((sub? s2 3 (s2.length:Int)).bind fun (l19:Bs)=>some (.inl (l19,(l3++[(wl.mk (IntKind.wrap .u8 r15.1) false)])))) else none)))) else (Option.map .inr (y3g l3))
noncomputable def Wr (s1:Bs):Option ((List wl)×Bool):=
 iter (fun (s:Bs×(List wl))=>ua s.1 s.2) (s1,[])
noncomputable def y2k (n1:Int):Option (Bs):=
 (sub? [48,49,50,51,52,53,54,55,56,57,65,66,67,68,69,70] n1 (IntKind.wrap .u8 (n1+1))).bind fun (l2:Bs)=>some l2
noncomputable def Ws (c1:Int):Option (Bs):=
 (y2k (shr_ .u8 c1 4)).bind fun r2=>if [37].length+r2.length≤1000000000 then ((y2k (and_ .u8 c1 15)).bind fun r5=>if ([37]++r2).length+r5.length≤1000000000 then (some (([37]++r2)++r5)) else none) else none
noncomputable def z16 (c17:Int) (x22:Bs) (l28:(List Bs)):Option ((Int×(List Bs)) ⊕ (Bs×Int)):=
 if decide (x22=[46,46]) then (some (.inl (wr (c17+1),l28))) else (some (.inl (c17,l28)))
noncomputable def z0e (r15:((List Bs))) (k21:Nat) (x22:Bs) (c17:Int) (l18:(List Bs)):Option ((Int×(List Bs)) ⊕ (Bs×Int)):=
 if ((decide (x22=[46])) || (decide (x22=[46,46]))) then (if decide ((k21:Int)=(wr ((r15.length:Int) - 1))) then (if l18.length+1≤1000000000 then (z16 c17 x22 (l18++([[]]))) else none) else (z16 c17 x22 l18)) else (if decide (0 < c17) then (some (.inl (wr (c17 - 1),l18))) else (if l18.length+1≤1000000000 then (some (.inl (c17,(l18++[x22])))) else none))
noncomputable def z54 (c17:Int) (l18:(List Bs)):Option (Bs×Int):=
 (z78 l18).bind fun r32=>(jr r32 [47]).bind fun r34=>if [47].length+r34.length≤1000000000 then (some (([47]++r34),0)) else none
noncomputable def z15 (v53:Bs):Option (Bs ⊕ (Bs×Int)):=
 some (.inl v53)
noncomputable def Qi (v8:Bs) (x12:wl) (v47:Bool):Option (Bs ⊕ (Bs×Int)):=
 if v47 then (if v8.length+(strN [x12.c_]).length≤1000000000 then (z15 (v8++(strN [x12.c_]))) else none) else ((Ws x12.c_).bind fun r50=>if v8.length+r50.length≤1000000000 then (z15 (v8++r50)) else none)
noncomputable def z14 (k9:Nat) (x12:wl) (v8:Bs):Option (Bs ⊕ (Bs×Int)):=
 if x12.plain_ then (Qi v8 x12 true) else ((xa (encL (IntKind.wrap .i32 x12.c_)) [97,98,99,100,101,102,103,104,105,106,107,108,109,110,111,112,113,114,115,116,117,118,119,120,121,122,65,66,67,68,69,70,71,72,73,74,75,76,77,78,79,80,81,82,83,84,85,86,87,88,89,90,48,49,50,51,52,53,54,55,56,57,45,46,95,126]).bind fun r41=>if r41 then (Qi v8 x12 (decide (x12.c_ < 128))) else (Qi v8 x12 false))
noncomputable def z9r (v8:Bs):Option (Bs×Int):=
 (sub? v8 1 (v8.length:Int)).bind fun (l13:Bs)=>(jq l13 [47]).bind fun r15=>if r15.length≤1000000000 then back (fun (k:Nat) (x:Bs) (s:Int×(List Bs))=>z0e r15 k x s.1 s.2) (fun (s:Int×(List Bs))=>z54 s.1 s.2) r15 r15.length (0,([]:List Bs)) else none
noncomputable def z8m (v1:Bs):Option (Bs×Int):=
 (z4n v1).bind fun r2=>if !r2 then (some ([],3)) else ((Wr v1).bind fun r5=>if !r5.2 then (some ([],9)) else (if r5.1.length≤1000000000 then forL (fun (k:Nat) (x:wl) (s:Bs)=>z14 k x s) (fun (s:Bs)=>z9r s) 0 r5.1 [] else none))
noncomputable def z1z (k5:Nat) (x8:wl) (l4:(List Int)):Option ((List Int) ⊕ (Bs)):=
 if l4.length+1≤1000000000 then (some (.inl (l4++[x8.c_]))) else none
noncomputable def z5w (l4:(List Int)):Option (Bs):=
 some (strN l4)
noncomputable def z1h (s1:Bs):Option (Bs):=
 (Wr s1).bind fun r2=>if r2.1.length≤1000000000 then forL (fun (k:Nat) (x:wl) (s:(List Int))=>z1z k x s) (fun (s:(List Int))=>z5w s) 0 r2.1 [] else none
noncomputable def z50 (out28:(List zo)):Option ((List zo) ⊕ ((List zo)×Int)):=
 some (.inl out28)
noncomputable def z13 (k11:Nat) (x14:Bs) (l10:(List zo)):Option ((List zo) ⊕ ((List zo)×Int)):=
 if decide (x14=[]) then (z50 l10) else ((y2b x14 [43] [37,50,48]).bind fun r19=>(km r19 [61]).bind fun r21=>(z1h r21.1).bind fun r23=>(z1h r21.2.1).bind fun r25=>if l10.length+1≤1000000000 then (z50 (l10++[(zo.mk r23 r25)])) else none)
noncomputable def z52 (l10:(List zo)):Option ((List zo)×Int):=
 if decide (100 < (l10.length:Int)) then (some ([],2)) else (some (l10,0))
noncomputable def z1i (s1:Bs):Option ((List zo)×Int):=
 (xl s1).bind fun r2=>if !r2 then (some ([],3)) else ((Wr s1).bind fun r5=>if !r5.2 then (some ([],9)) else ((jq s1 [38]).bind fun r8=>if r8.length≤1000000000 then forL (fun (k:Nat) (x:Bs) (s:(List zo))=>z13 k x s) (fun (s:(List zo))=>z52 s) 0 r8 [] else none))
noncomputable def z1j (p1:zo):Option (Bool):=
 if p1.Name.length+p1.Value.length≤1000000000 then (some (decide ((p1.Name++p1.Value)=[]))) else none
noncomputable def y1b (blockSize16:Int):Option (Int ⊕ ((List zo))):=
 some (.inl (wr (blockSize16 * 2)))
noncomputable def y1c (n2:Int) (blockSize16:Int) (a23:Int):Option (Int ⊕ ((List zo))):=
 if decide ((wr (a23+blockSize16)) < n2) then none else (y1b blockSize16)
noncomputable def y4n (n2:Int) (blockSize16:Int) (a19:Int) (b20:Int):Option ((Int×Int) ⊕ (Int ⊕ ((List zo)))):=
 if decide (b20≤n2) then none else (Option.map .inr (y1c n2 blockSize16 a19))
noncomputable def y4o (n2:Int) (r13:((List zo))) (blockSize16:Int):Option (Int ⊕ ((List zo))):=
 if decide (blockSize16 < n2) then (iter (fun (s:Int×Int)=>y4n n2 blockSize16 s.1 s.2) (0,wr (2 * blockSize16))) else (some (.inr r13))
noncomputable def y1d (n2:Int) (p2:zo→zo→Option (Int)) (a11:Int) (data12:(List zo)):Option ((List zo)):=
 (z73 data12 a11 n2 p2).bind fun r13=>if r13.length=data12.length then (iter (fun (s:Int)=>y4o n2 r13 s) 20) else none
noncomputable def y4p (n2:Int) (p2:zo→zo→Option (Int)) (a3:Int) (b4:Int) (l5:(List zo)):Option ((Int×Int×(List zo)) ⊕ ((List zo))):=
 if decide (b4≤n2) then ((z73 l5 a3 b4 p2).bind fun r8=>if r8.length=l5.length then (some (.inl (b4,wr (b4+20),r8))) else none) else (Option.map .inr (y1d n2 p2 a3 l5))
noncomputable def y2e (data1:(List zo)) (n2:Int) (p2:zo→zo→Option (Int)):Option ((List zo)):=
 iter (fun (s:Int×Int×(List zo))=>y4p n2 p2 s.1 s.2.1 s.2.2) (0,20,data1)
noncomputable def z74 (x1:(List zo)) (p1:zo→zo→Option (Int)):Option ((List zo)):=
 (y2e x1 (x1.length:Int) p1).bind fun r2=>if r2.length=x1.length then some r2 else none
noncomputable def z4t (a1:zo) (b2:zo):Option (Int):=
 if decide (a1.Name≠b2.Name) then ((z35 a1.Name b2.Name).bind fun r4=>some r4) else ((z35 a1.Value b2.Value).bind fun r6=>some r6)
noncomputable def z1x (out18:(List Int)):Option ((List Int) ⊕ (Bs)):=
 some (.inl out18)
noncomputable def z1w (k3:Nat) (x6:UInt8) (l2:(List Int)):Option ((List Int) ⊕ (Bs)):=
 if decide ((x6.toNat:Int)=32) then (if l2.length+1≤1000000000 then (z1x (l2++[43])) else none) else ((z09 [97,98,99,100,101,102,103,104,105,106,107,108,109,110,111,112,113,114,115,116,117,118,119,120,121,122,65,66,67,68,69,70,71,72,73,74,75,76,77,78,79,80,81,82,83,84,85,86,87,88,89,90,48,49,50,51,52,53,54,55,56,57,45,46,95,126] (x6.toNat:Int)).bind fun r11=>if decide (0≤r11) then (if l2.length+1≤1000000000 then (z1x (l2++[(x6.toNat:Int)])) else none) else ((Ws (x6.toNat:Int)).bind fun r15=>if l2.length+r15.length≤1000000000 then (z1x (l2++ym r15)) else none))
noncomputable def z5u (l2:(List Int)):Option (Bs):=
 some (strN l2)
noncomputable def z4m (s1:Bs):Option (Bs):=
 if s1.length≤1000000000 then forL (fun (k:Nat) (x:UInt8) (s:(List Int))=>z1w k x s) (fun (s:(List Int))=>z5u s) 0 s1 [] else none
noncomputable def y3k (k4:Nat) (x7:zo) (l3:(List Bs)):Option ((List Bs) ⊕ (Bs×Int)):=
 if ((decide (x7.Name=[])) && (decide (x7.Value=[]))) then (some (.inr ([],3))) else ((z4m x7.Name).bind fun r14=>if r14.length+[61].length≤1000000000 then ((z4m x7.Value).bind fun r17=>if (r14++[61]).length+r17.length≤1000000000 then (if l3.length+1≤1000000000 then (some (.inl (l3++([((r14++[61])++r17)])))) else none) else none) else none)
noncomputable def y66 (l3:(List Bs)):Option (Bs×Int):=
 (jr l3 [38]).bind fun r8=>if decide (1000 < (r8.length:Int)) then (some ([],2)) else (some (r8,0))
noncomputable def z4s (l1:(List zo)):Option (Bs×Int):=
 if decide (100 < (l1.length:Int)) then (some ([],2)) else (if l1.length≤1000000000 then forL (fun (k:Nat) (x:zo) (s:(List Bs))=>y3k k x s) (fun (s:(List Bs))=>y66 s) 0 l1 [] else none)
noncomputable def z17 (k24:Nat) (x27:zn) (l23:(List zn)):Option ((List zn) ⊕ (zz×Int)):=
 (jo x27.Name).bind fun r30=>if l23.length+1≤1000000000 then (some (.inl (l23++[(zn.mk r30 x27.Value)]))) else none
noncomputable def y3l (v1:zz) (r5:(Bs×Int)) (r7:(Bs×Int)) (r18:(Bs×Int)) (r21:(Bs)) (l23:(List zn)):Option (zz×Int):=
 some ((zz.mk v1.At r21 r5.1 r7.1 r18.1 v1.From l23 v1.Body),0)
noncomputable def Wv (v1:zz):Option (zz×Int):=
 (Zw v1).bind fun r2=>if decide (r2≠0) then (some ((zz.mk 0 [] [] [] [] [] [] []),r2)) else ((Ww v1.Host).bind fun r5=>(z8m v1.Path).bind fun r7=>if decide (r7.2≠0) then (some ((zz.mk 0 [] [] [] [] [] [] []),r7.2)) else ((z1i v1.Query).bind fun r10=>if decide (r10.2≠0) then (some ((zz.mk 0 [] [] [] [] [] [] []),r10.2)) else ((z4a r10.1 (fun (a0:zo)=>z1j a0)).bind fun r13=>(z74 r13 (fun (a0:zo) (a1:zo)=>z4t a0 a1)).bind fun r15=>if r15.length=r13.length then ((z4s r15).bind fun r18=>if decide (r18.2≠0) then (some ((zz.mk 0 [] [] [] [] [] [] []),r18.2)) else ((z33 v1.Method).bind fun r21=>if v1.Headers.length≤1000000000 then forL (fun (k:Nat) (x:zn) (s:(List zn))=>z17 k x s) (fun (s:(List zn))=>y3l v1 r5 r7 r18 r21 s) 0 v1.Headers ([]:List zn) else none)) else none)))
noncomputable def Wu (n1:Bs) (c2:zz) (c3:zz):Option (Bool):=
 (xm c2.Headers n1).bind fun r4=>(xm c3.Headers n1).bind fun r6=>(z39 r4 r6).bind fun r8=>some (!r8)
noncomputable def z8l (v1:qr) (v2:zz):Option (Bool×Int):=
 (Wv v1.Request).bind fun r3=>if decide (r3.2≠0) then (some (false,r3.2)) else ((Wv v2).bind fun r6=>if decide (r6.2≠0) then (some (false,r6.2)) else ((z4q v1.Response).bind fun r9=>if ((((r9.2.1 || (decide (r3.1.Host≠r6.1.Host))) || (decide (r3.1.Path≠r6.1.Path))) || (decide (r3.1.Query≠r6.1.Query))) || ((decide (r3.1.Method≠r6.1.Method)) && ((decide (r3.1.Method≠[71,69,84])) || (decide (r6.1.Method≠[72,69,65,68]))))) then (some (false,0)) else ((z1a r9.1 (fun (a0:Bs)=>Wu a0 r3.1 r6.1)).bind fun r12=>some (!r12,0))))
noncomputable def z0i (e1:qr) (v2:Int) (n17:Int):Option (Int):=
 some (wr ((wr (v2 - e1.At))+(wr (1000 * n17))))
noncomputable def z6f (e1:qr) (v2:Int) (r8:(Int×Bool)) (v15:Bool):Option (Int):=
 if v15 then (z0i e1 v2 r8.1) else (z0i e1 v2 0)
noncomputable def z4y (e1:qr) (v2:Int):Option (Int):=
 (xm e1.Response.Headers [97,103,101]).bind fun r3=>if decide (0 < (r3.length:Int)) then ((r3[0]?).bind fun (x6:Bs)=>(Zx x6 9).bind fun r8=>if r8.2 then ((ko r8.1 0 100000000).bind fun r12=>z6f e1 v2 r8 r12) else (z6f e1 v2 r8 false)) else (z0i e1 v2 0)
noncomputable def z4p (c1:zy):Option (Int):=
 if c1.NoCache then some 0 else (if decide (0≤c1.Shared) then (some (wr (1000 * c1.Shared))) else (some (max 0 (wr (1000 * c1.MaxAge)))))
noncomputable def z1g (n1:Int) (ms2:Int):Option (Bool):=
 some ((decide (0≤n1)) && (decide (ms2≤(wr (1000 * n1)))))
noncomputable def kj (r3:(zy×Int)) (r6:(zy×Int)) (r14:(Int)) (r16:(Int)) (v36:Bool):Option (Int×Int):=
 if v36 then (some (1,0)) else (if ((decide ((wr (r14 - r16)) < 0)) || r6.1.Must) then (some (3,0)) else ((z1g r3.1.MaxStale (wr (r14 - r16))).bind fun r39=>if r39 then (some (1,0)) else (if (((decide (0≤r6.1.Stale)) && (decide ((wr (r14 - r16)) < (wr (1000 * r6.1.Stale))))) && (decide (r3.1.MaxAge < 0))) then (some (2,0)) else (some (3,0)))))
noncomputable def z4x (v1:qr) (v2:zz):Option (Int×Int):=
 (z1k v2.Headers).bind fun r3=>if decide (r3.2≠0) then (some (0,r3.2)) else ((z1k v1.Response.Headers).bind fun r6=>if decide (r6.2≠0) then (some (0,r6.2)) else (if decide (v2.At < v1.At) then (some (0,7)) else ((z8l v1 v2).bind fun r10=>if decide (r10.2≠0) then (some (0,r10.2)) else (if !r10.1 then (some (0,13)) else ((z4y (qr.mk v1.Request v1.Response v1.At v1.Tags v1.Used) v2.At).bind fun r14=>(z4p (zy.mk r6.1.NoStore r6.1.NoCache r6.1.Private r6.1.Public r6.1.Must r6.1.Only r6.1.MaxAge r6.1.Shared r6.1.Stale r6.1.OnError r6.1.MaxStale r6.1.MinFresh)).bind fun r16=>if (r6.1.NoCache || r3.1.NoCache) then (some (3,0)) else (if decide ((wr (r14 - r16)) < 0) then (if decide (r3.1.MaxAge < 0) then (if decide (r3.1.MinFresh < 0) then (kj r3 r6 r14 r16 true) else (kj r3 r6 r14 r16 (decide ((wr (r14 - r16))≤(wr ((-1000) * r3.1.MinFresh)))))) else ((z1g r3.1.MaxAge r14).bind fun r23=>if r23 then (if decide (r3.1.MinFresh < 0) then (kj r3 r6 r14 r16 true) else (kj r3 r6 r14 r16 (decide ((wr (r14 - r16))≤(wr ((-1000) * r3.1.MinFresh)))))) else (kj r3 r6 r14 r16 false))) else (kj r3 r6 r14 r16 false)))))))
noncomputable def y2r (a1:qc):Option (Int×Int):=
 (Zv a1).bind fun r2=>if decide (r2≠0) then (some (0,r2)) else ((Zd a1.Headers).bind fun r5=>if decide (r5.2≠0) then (some (0,r5.2)) else ((Zz a1).bind fun r8=>if decide (r8.2.2≠0) then (some (0,r8.2.2)) else ((Wz r5.1).bind fun r11=>some (r11,0))))
noncomputable def z8v  : Option (Bool):=
 (y2r (qc.mk 200 ([(zn.mk [99,97,99,104,101,45,99,111,110,116,114,111,108] [109,97,120,45,97,103,101,61,50])]) [])).bind fun r1=>some ((decide (r1.2=0)) && (decide (r1.1=2000)))
noncomputable def z2q (v60:Bool):Option (Bool):=
 some v60
noncomputable def z2r (r39:(Int×Int)) (v50:Int) (v51:Int):Option (Bool):=
 if decide (r39.2=v50) then (if decide (r39.1=v51) then ((z8v ).bind fun r56=>z2q r56) else (z2q false)) else (z2q false)
noncomputable def z2s (r2:(qr×zt)) (c24:Bs) (c25:Bs) (c26:Bs) (c27:Bs) (c28:Bs) (c29:(List zn)) (c30:Bs) (c38:Int):Option (Bool):=
 (z47 r2.1 (zz.mk c38 c24 c25 c26 c27 c28 c29 c30)).bind fun r39=>(z4w r2.1).bind fun r41=>(Zw (zz.mk c38 c24 c25 c26 c27 c28 c29 c30)).bind fun r43=>(z8w [r41,r43]).bind fun r45=>if decide (r45=0) then ((z4x r2.1 (zz.mk c38 c24 c25 c26 c27 c28 c29 c30)).bind fun r48=>z2r r39 r48.2 r48.1) else (z2r r39 r45 0)
noncomputable def z2t (r2:(qr×zt)) (r6:(zz×zt)) (c24:Bs) (c25:Bs) (c26:Bs) (c27:Bs) (c28:Bs) (c29:(List zn)) (c30:Bs) (c31:(List Int)) (c32:Int):Option (Bool):=
 (vp (zt.mk c31 c32) 20).bind fun r33=>if r33.1 then ((Wy r33.2 0 1000).bind fun r36=>z2s r2 c24 c25 c26 c27 c28 c29 c30 r36.1) else (z2s r2 c24 c25 c26 c27 c28 c29 c30 r6.1.At)
noncomputable def z6m (r2:(qr×zt)) (r6:(zz×zt)) (l21:(List zn)) (c22:(List Int)) (c23:Int):Option (Bool):=
 z2t r2 r6 r2.1.Request.Method r2.1.Request.Host r2.1.Request.Path r2.1.Request.Query r2.1.Request.From l21 r2.1.Request.Body c22 c23
noncomputable def y2n (v1:(List Int)):Option (Bool):=
 (z8r (zt.mk v1 0)).bind fun r2=>(y2m r2.2 r2.1.At).bind fun r4=>(z4z r4.2 r4.1).bind fun r6=>(vp r6.2 2).bind fun r8=>if r8.1 then ((uz r2.1.Request.Headers).bind fun r11=>(y2g r11 (fun (a0:zn)=>z8x a0)).bind fun r13=>(vp r8.2 3).bind fun r15=>if r15.1 then ((z40 r15.2).bind fun r18=>if r13.length+1≤1000000000 then (z6m r2 r6 (r13++([(zn.mk [99,97,99,104,101,45,99,111,110,116,114,111,108] r18.1)])) r18.2.L r18.2.at_) else none) else (z6m r2 r6 r13 r15.2.L r15.2.at_)) else (z2t r2 r6 r6.1.Method r6.1.Host r6.1.Path r6.1.Query r6.1.From r6.1.Headers r6.1.Body r8.2.L r8.2.at_)
end Go.Proofs.YtmdllhcjefcggabGreatDoor
