/- Plain models of functions. Printed by a program. -/
import Derived.Test.YtkldmhhbbceaoabGreatDoorMc
import Derived.Test.YtkldmhhbbceaoabGreatDoorFld
namespace Go.Proofs.YtkldmhhbbceaoabGreatDoor
set_option linter.unusedVariables false
set_option maxRecDepth 20000
structure zn where
 L:(List Int)
 at_:Int
structure zd where
 Name:Bs
 Value:Bs
structure ya where
 At:Int
 Method:Bs
 Host:Bs
 Path:Bs
 Query:Bs
 From:Bs
 Headers:(List zd)
 Body:Bs
structure zx where
 Status:Int
 Headers:(List zd)
 Body:Bs
structure zy where
 Request:ya
 Response:zx
 At:Int
 Tags:(List Bs)
 Used:Int
structure yn where
 NoStore:Bool
 NoCache:Bool
 Private:Bool
 Public:Bool
 Must:Bool
 Only:Bool
 MaxAge:Int
 Shared:Int
 Stale:Int
 OnError:Int
 MaxStale:Int
 MinFresh:Int
def z8g (x:Int):Bool:=decide (x=0) || decide (x=1) || decide (x=2) || decide (x=3) || decide (x=4) || decide (x=5)
def z81 (c:yn) (x:Int) (y:Bool):yn:=if x=0 then yn.mk y c.NoCache c.Private c.Public c.Must c.Only c.MaxAge c.Shared c.Stale c.OnError c.MaxStale c.MinFresh else if x=1 then yn.mk c.NoStore y c.Private c.Public c.Must c.Only c.MaxAge c.Shared c.Stale c.OnError c.MaxStale c.MinFresh else if x=2 then yn.mk c.NoStore c.NoCache y c.Public c.Must c.Only c.MaxAge c.Shared c.Stale c.OnError c.MaxStale c.MinFresh else if x=3 then yn.mk c.NoStore c.NoCache c.Private y c.Must c.Only c.MaxAge c.Shared c.Stale c.OnError c.MaxStale c.MinFresh else if x=4 then yn.mk c.NoStore c.NoCache c.Private c.Public y c.Only c.MaxAge c.Shared c.Stale c.OnError c.MaxStale c.MinFresh else if x=5 then yn.mk c.NoStore c.NoCache c.Private c.Public c.Must y c.MaxAge c.Shared c.Stale c.OnError c.MaxStale c.MinFresh else c
def xw (x:Int):Bool:=decide (x=6) || decide (x=7) || decide (x=8) || decide (x=9) || decide (x=10) || decide (x=11)
def Zu (c:yn) (x:Int):Int:=if x=6 then c.MaxAge else if x=7 then c.Shared else if x=8 then c.Stale else if x=9 then c.OnError else if x=10 then c.MaxStale else if x=11 then c.MinFresh else 0
def z6g (c:yn) (x:Int) (y:Int):yn:=if x=6 then yn.mk c.NoStore c.NoCache c.Private c.Public c.Must c.Only y c.Shared c.Stale c.OnError c.MaxStale c.MinFresh else if x=7 then yn.mk c.NoStore c.NoCache c.Private c.Public c.Must c.Only c.MaxAge y c.Stale c.OnError c.MaxStale c.MinFresh else if x=8 then yn.mk c.NoStore c.NoCache c.Private c.Public c.Must c.Only c.MaxAge c.Shared y c.OnError c.MaxStale c.MinFresh else if x=9 then yn.mk c.NoStore c.NoCache c.Private c.Public c.Must c.Only c.MaxAge c.Shared c.Stale y c.MaxStale c.MinFresh else if x=10 then yn.mk c.NoStore c.NoCache c.Private c.Public c.Must c.Only c.MaxAge c.Shared c.Stale c.OnError y c.MinFresh else if x=11 then yn.mk c.NoStore c.NoCache c.Private c.Public c.Must c.Only c.MaxAge c.Shared c.Stale c.OnError c.MaxStale y else c
noncomputable def z2m (x6:Int):Option (Int):=
 some x6
noncomputable def Qh (x1:Int) (n2:Int):Option (Int):=
 if decide (n2 < 1) then some 0 else (if n2≠0 then (if decide ((Int.tmod x1 n2) < 0) then (z2m (wr ((Int.tmod x1 n2)+n2))) else (z2m (Int.tmod x1 n2))) else none)
noncomputable def jz (s1:zn) (n2:Int):Option (Int×zn):=
 if decide ((s1.L.length:Int)=0) then ((Qh (wr ((wr (s1.at_+1)) * 7919)) n2).bind fun r4=>some (r4,(zn.mk s1.L (wr (s1.at_+1))))) else (if (s1.L.length:Int)≠0 then (if ((0:Int)≤(wr ((wr (s1.at_+1)) - 1))∧(wr ((wr (s1.at_+1)) - 1))≤9223372036854775807)∧(0:Int) < (s1.L.length:Int) then ((at? s1.L (Int.tmod (wr ((wr (s1.at_+1)) - 1)) (s1.L.length:Int))).bind fun (x8:Int)=>(Qh x8 1073741824).bind fun r10=>(Qh (wr (r10+(wr (((wr ((wr (s1.at_+1)) - 1)) / (s1.L.length:Int)) * (wr (7919+(Int.tmod (wr ((wr (s1.at_+1)) - 1)) (s1.L.length:Int)))))))) n2).bind fun r12=>some (r12,(zn.mk s1.L (wr (s1.at_+1))))) else none) else none)
noncomputable def wo (s1:zn) (l2:(List Bs)):Option (Bs×zn):=
 (jz s1 (l2.length:Int)).bind fun r3=>(at? l2 r3.1).bind fun (x5:Bs)=>some (x5,r3.2)
noncomputable def wv (s1:zn) (n2:Int):Option (Bool×zn):=
 (jz s1 n2).bind fun r3=>some (decide (r3.1=0),r3.2)
noncomputable def xm (s1:zn) (low2:Int) (high3:Int):Option (Int×zn):=
 if decide (high3 < low2) then (some (low2,s1)) else ((jz s1 (wr ((wr (high3 - low2))+1))).bind fun r5=>some (wr (low2+r5.1),r5.2))
noncomputable def z2h (l4:(List Bs)) (k8:Nat) (c5:(List Int)) (c6:Int) (l7:(List Bs)):Option (((List Int)×Int×(List Bs)) ⊕ (Bs×zn)):=
 (wo (zn.mk c5 c6) l4).bind fun r14=>if l7.length+1≤1000000000 then (some (.inl (r14.2.L,r14.2.at_,(l7++[r14.1])))) else none
noncomputable def z2i (between3:Bs) (c5:(List Int)) (c6:Int) (l7:(List Bs)):Option (Bs×zn):=
 (jx l7 between3).bind fun r11=>some (r11,(zn.mk c5 c6))
noncomputable def jo (s1:zn) (many2:Int) (between3:Bs) (l4:(List Bs)):Option (Bs×zn):=
 if many2≤1000000000 then rng (fun (k:Nat) (s:(List Int)×Int×(List Bs))=>z2h l4 k s.1 s.2.1 s.2.2) (fun (s:(List Int)×Int×(List Bs))=>z2i between3 s.1 s.2.1 s.2.2) many2.toNat 0 (s1.L,s1.at_,[]) else none
noncomputable def z2l (t11:Bs) (c12:(List Int)) (c13:Int):Option (Bs×zn):=
 some (t11,(zn.mk c12 c13))
noncomputable def z4b (s1:zn):Option (Bs×zn):=
 (xm s1 1 2).bind fun r2=>(jo r2.2 r2.1 [44,32] ([[109,97,120,45,97,103,101,61,51,48],[109,97,120,45,97,103,101,61,48],[109,105,110,45,102,114,101,115,104,61,50,48],[109,97,120,45,115,116,97,108,101,61,49,53],[110,111,45,99,97,99,104,101],[111,110,108,121,45,105,102,45,99,97,99,104,101,100],[109,97,120,45,115,116,97,108,101,61,49,48,48,48],[110,111,45,115,116,111,114,101]])).bind fun r4=>(wv r4.2 20).bind fun r6=>if r6.1 then ((wo r6.2 ([[109,97,120,45,115,116,97,108,101],[109,105,110,45,102,114,101,115,104,61,120]])).bind fun r9=>z2l r9.1 r9.2.L r9.2.at_) else (z2l r4.1 r6.2.L r6.2.at_)
noncomputable def z4a (s1:zn) (t2:Bs) (v3:Bs):Option (Bs×zn):=
 if ((decide (t2=[])) || (decide (v3=[]))) then (some (v3,s1)) else ((jz s1 (t2.length:Int)).bind fun r5=>(jz r5.2 (v3.length:Int)).bind fun r7=>(at? v3 r7.1).bind fun (x9:UInt8)=>(jz r7.2 3).bind fun r11=>if decide (r11.1=0) then ((sub? t2 0 r5.1).bind fun (l14:Bs)=>if l14.length+(encL (IntKind.wrap .i32 (x9.toNat:Int))).length≤1000000000 then ((sub? t2 (wr (r5.1+1)) (t2.length:Int)).bind fun (l17:Bs)=>if (l14++(encL (IntKind.wrap .i32 (x9.toNat:Int)))).length+l17.length≤1000000000 then (some (((l14++(encL (IntKind.wrap .i32 (x9.toNat:Int))))++l17),r11.2)) else none) else none) else (if decide (r11.1=1) then ((sub? t2 0 r5.1).bind fun (l21:Bs)=>if l21.length+(encL (IntKind.wrap .i32 (x9.toNat:Int))).length≤1000000000 then ((sub? t2 r5.1 (t2.length:Int)).bind fun (l24:Bs)=>if (l21++(encL (IntKind.wrap .i32 (x9.toNat:Int)))).length+l24.length≤1000000000 then (some (((l21++(encL (IntKind.wrap .i32 (x9.toNat:Int))))++l24),r11.2)) else none) else none) else ((sub? t2 0 r5.1).bind fun (l27:Bs)=>(sub? t2 (wr (r5.1+1)) (t2.length:Int)).bind fun (l29:Bs)=>if l27.length+l29.length≤1000000000 then (some ((l27++l29),r11.2)) else none)))
noncomputable def z2j (p23:Bs) (c24:(List Int)) (c25:Int):Option (Bs×zn):=
 some (p23,(zn.mk c24 c25))
noncomputable def We (p15:Bs) (c16:(List Int)) (c17:Int):Option (Bs×zn):=
 (wv (zn.mk c16 c17) 12).bind fun r18=>if r18.1 then ((z4a r18.2 p15 [47,46,37,50,102,65]).bind fun r21=>z2j r21.1 r21.2.L r21.2.at_) else (z2j p15 r18.2.L r18.2.at_)
noncomputable def z34 (s1:zn):Option (Bs×zn):=
 (xm s1 0 4).bind fun r2=>(jo r2.2 r2.1 [47] ([[97],[98],[37,52,49],[37,50,102],[37,55,101],[46],[46,46],[],[120,59,121],[99,37,50,48,100],[37,99,51,37,97,52],[65],[97,46,98],[126]])).bind fun r4=>if [47].length+r4.1.length≤1000000000 then ((wv r4.2 12).bind fun r7=>if r7.1 then ((Zg [37,50,48] 340).bind fun r10=>if [47].length+r10.length≤1000000000 then ((wo r7.2 ([[],[97],[47,97,63,98],[47,97,35],[47,37],[47,37,52],[47,37,122,122],[47,127],[47,97,32,98],([47]++r10)])).bind fun r13=>We r13.1 r13.2.L r13.2.at_) else none) else (We ([47]++r4.1) r7.2.L r7.2.at_)) else none
noncomputable def Wd (q13:Bs) (c14:(List Int)) (c15:Int):Option (Bs×zn):=
 some (q13,(zn.mk c14 c15))
noncomputable def Qg (s1:zn):Option (Bs×zn):=
 (xm s1 0 4).bind fun r2=>(jo r2.2 r2.1 [38] ([[97,61,49],[98,61,50],[97,61],[61,120],[61],[99],[],[97,61,37,52,49,43,37,50,66],[100,61,120,37,50,54,121],[98,61,37,99,51],[97,61,49,61,50],[97,63,98,61,47]])).bind fun r4=>(wv r4.2 12).bind fun r6=>if r6.1 then ((jo r6.2 101 [38] ([[120]])).bind fun r9=>(wo r9.2 ([[35],[97,37],[37,103,49,61,50],[97,32,98],[128],r9.1])).bind fun r11=>Wd r11.1 r11.2.L r11.2.at_) else (Wd r4.1 r6.2.L r6.2.at_)
noncomputable def Wq (v2:Int) (r3:(Bs×zn)) (r5:(Bs×zn)) (l46:(List zd)) (c54:(List Int)) (c55:Int) (c56:Bs) (c57:Bs):Option (ya×zn):=
 some ((ya.mk v2 r3.1 r5.1 c56 c57 [] l46 []),(zn.mk c54 c55))
noncomputable def Wr (v2:Int) (r3:(Bs×zn)) (r5:(Bs×zn)) (r7:(Bs×zn)) (r9:(Bs×zn)) (c44:(List Int)) (c45:Int) (l46:(List zd)):Option (ya×zn):=
 (wv (zn.mk c44 c45) 40).bind fun r47=>if r47.1 then ((z34 r47.2).bind fun r50=>(Qg r50.2).bind fun r52=>Wq v2 r3 r5 l46 r52.2.L r52.2.at_ r50.1 r52.1) else (Wq v2 r3 r5 l46 r47.2.L r47.2.at_ r7.1 r9.1)
noncomputable def Ws (v2:Int) (r3:(Bs×zn)) (r5:(Bs×zn)) (r7:(Bs×zn)) (r9:(Bs×zn)) (c35:(List Int)) (c36:Int) (l37:(List zd)):Option (ya×zn):=
 (wv (zn.mk c35 c36) 8).bind fun r38=>if r38.1 then ((wo r38.2 ([[34,118,49,34],[87,47,34,118,50,34,44,32,34,118,49,34],[42],[118,49]])).bind fun r41=>if l37.length+1≤1000000000 then (Wr v2 r3 r5 r7 r9 r41.2.L r41.2.at_ (l37++([(zd.mk [105,102,45,110,111,110,101,45,109,97,116,99,104] r41.1)]))) else none) else (Wr v2 r3 r5 r7 r9 r38.2.L r38.2.at_ l37)
noncomputable def Wt (v2:Int) (r3:(Bs×zn)) (r5:(Bs×zn)) (r7:(Bs×zn)) (r9:(Bs×zn)) (c28:(List Int)) (c29:Int) (l30:(List zd)):Option (ya×zn):=
 (wv (zn.mk c28 c29) 12).bind fun r31=>if r31.1 then (if l30.length+1≤1000000000 then (Ws v2 r3 r5 r7 r9 r31.2.L r31.2.at_ (l30++([(zd.mk [97,117,116,104,111,114,105,122,97,116,105,111,110] [66,101,97,114,101,114,32,120])]))) else none) else (Ws v2 r3 r5 r7 r9 r31.2.L r31.2.at_ l30)
noncomputable def Wu (v2:Int) (r3:(Bs×zn)) (r5:(Bs×zn)) (r7:(Bs×zn)) (r9:(Bs×zn)) (c19:(List Int)) (c20:Int) (l21:(List zd)):Option (ya×zn):=
 (wv (zn.mk c19 c20) 4).bind fun r22=>if r22.1 then ((z4b r22.2).bind fun r25=>if l21.length+1≤1000000000 then (Wt v2 r3 r5 r7 r9 r25.2.L r25.2.at_ (l21++([(zd.mk [99,97,99,104,101,45,99,111,110,116,114,111,108] r25.1)]))) else none) else (Wt v2 r3 r5 r7 r9 r22.2.L r22.2.at_ l21)
noncomputable def z1i (s1:zn) (v2:Int):Option (ya×zn):=
 (wo s1 ([[71,69,84],[71,69,84],[71,69,84],[71,69,84],[72,69,65,68],[80,79,83,84]])).bind fun r3=>(wo r3.2 ([[97,46,98],[97,46,98],[65,46,66,58,56,48],[99,46,100]])).bind fun r5=>(wo r5.2 ([[47,120],[47,120],[47,120,47,46,47],[47,37,55,56],[47,121]])).bind fun r7=>(wo r7.2 ([[],[],[98,61,50,38,97,61,49],[97,61,49,38,98,61,50]])).bind fun r9=>(wv r9.2 3).bind fun r11=>if r11.1 then ((wo r11.2 ([[97,99,99,101,112,116,45,108,97,110,103,117,97,103,101],[65,99,99,101,112,116,45,76,97,110,103,117,97,103,101]])).bind fun r14=>(wo r14.2 ([[100,101],[101,110]])).bind fun r16=>if ([]:List zd).length+1≤1000000000 then (Wu v2 r3 r5 r7 r9 r16.2.L r16.2.at_ (([]:List zd)++[(zd.mk r14.1 r16.1)])) else none) else (Wu v2 r3 r5 r7 r9 r11.2.L r11.2.at_ ([]:List zd))
noncomputable def Zo (s1:zn) (l2:(List Int)):Option (Int×zn):=
 (jz s1 (l2.length:Int)).bind fun r3=>(at? l2 r3.1).bind fun (x5:Int)=>some (x5,r3.2)
noncomputable def z2k (t19:Bs) (c20:(List Int)) (c21:Int):Option (Bs×zn):=
 some (t19,(zn.mk c20 c21))
noncomputable def Wg (t11:Bs) (c12:(List Int)) (c13:Int):Option (Bs×zn):=
 (wv (zn.mk c12 c13) 20).bind fun r14=>if r14.1 then ((wo r14.2 ([[109,97,120,45,97,103,101],[110,111,45,99,97,99,104,101,61,49],[109,97,120,45,97,103,101,61,45,49],[109,97,120,45,97,103,101,61,48,49],[109,97,120,45,97,103,101,61,49,48,48,48,48,48,48,48,49],[61,49],[97,32,98],[109,97,120,45,97,103,101,61,54,48,32,44,32,44,32,110,111,45,99,97,99,104,101]])).bind fun r17=>z2k r17.1 r17.2.L r17.2.at_) else (z2k t11 r14.2.L r14.2.at_)
noncomputable def z39 (s1:zn):Option (Bs×zn):=
 (xm s1 0 3).bind fun r2=>(jo r2.2 r2.1 [44,32] ([[109,97,120,45,97,103,101,61,54,48],[109,97,120,45,97,103,101,61,54,48],[109,97,120,45,97,103,101,61,48],[109,97,120,45,97,103,101,61,49,48],[115,45,109,97,120,97,103,101,61,51,48],[110,111,45,99,97,99,104,101],[112,117,98,108,105,99],[109,117,115,116,45,114,101,118,97,108,105,100,97,116,101],[115,116,97,108,101,45,119,104,105,108,101,45,114,101,118,97,108,105,100,97,116,101,61,50,48],[115,116,97,108,101,45,105,102,45,101,114,114,111,114,61,49,48,48],[120,61,49],[121],[77,97,120,45,65,103,101,61,57,48]])).bind fun r4=>(wv r4.2 10).bind fun r6=>if r6.1 then ((jo r6.2 2 [44] ([[110,111,45,115,116,111,114,101],[112,114,105,118,97,116,101],[109,97,120,45,97,103,101,61,54,48],[111,110,108,121,45,105,102,45,99,97,99,104,101,100],[105,109,109,117,116,97,98,108,101]])).bind fun r9=>Wg r9.1 r9.2.L r9.2.at_) else (Wg r4.1 r6.2.L r6.2.at_)
noncomputable def uq (name1:Bs) (value2:Bs) (c3:zx):Option (zx):=
 if c3.Headers.length+1≤1000000000 then (some (zx.mk c3.Status (c3.Headers++[(zd.mk name1 value2)]) c3.Body)) else none
noncomputable def Zp (s1:zn) (low2:Int) (high3:Int):Option (Int×zn):=
 (wv s1 12).bind fun r4=>if r4.1 then ((Zo r4.2 [wr (low2 - 1),wr (high3+1),low2,high3,(-1099511627776),1099511627776]).bind fun r7=>some (r7.1,r7.2)) else ((xm r4.2 low2 high3).bind fun r9=>some (r9.1,r9.2))
noncomputable def Wh (l85:(List zd)) (c87:Bs) (c93:(List Int)) (c94:Int) (c95:Int):Option (zx×zn):=
 some ((zx.mk c95 l85 c87),(zn.mk c93 c94))
noncomputable def Wi (c83:(List Int)) (c84:Int) (l85:(List zd)) (c86:Int) (c87:Bs):Option (zx×zn):=
 (wv (zn.mk c83 c84) 40).bind fun r88=>if r88.1 then ((Zp r88.2 100 599).bind fun r91=>Wh l85 c87 r91.2.L r91.2.at_ r91.1) else (Wh l85 c87 r88.2.L r88.2.at_ c86)
noncomputable def Wj (c67:(List Int)) (c68:Int) (l69:(List zd)) (c70:Int) (c71:Bs):Option (zx×zn):=
 (wv (zn.mk c67 c68) 30).bind fun r72=>if r72.1 then ((wo r72.2 ([[118,97,114,121],[99,97,99,104,101,45,116,97,103]])).bind fun r75=>(jo r75.2 12 [44] ([[104,49],[104,50],[104,51],[104,52],[104,53],[104,54],[104,55],[104,56],[104,57],[104,97],[104,98],[104,99]])).bind fun r77=>(wo r77.2 ([[97,32,98],[65],[],r77.1])).bind fun r79=>(uq r75.1 r79.1 (zx.mk c70 l69 c71)).bind fun r81=>Wi r79.2.L r79.2.at_ r81.Headers r81.Status r81.Body) else (Wi r72.2.L r72.2.at_ l69 c70 c71)
noncomputable def Wl (c55:(List Int)) (c56:Int) (l57:(List zd)) (c58:Int) (c59:Bs):Option (zx×zn):=
 (wv (zn.mk c55 c56) 6).bind fun r60=>if r60.1 then ((wo r60.2 ([[53],[53,48],[120],[45,49],[49,48,48,48,48,48,48,48,49]])).bind fun r63=>(uq [97,103,101] r63.1 (zx.mk c58 l57 c59)).bind fun r65=>Wj r63.2.L r63.2.at_ r65.Headers r65.Status r65.Body) else (Wj r60.2.L r60.2.at_ l57 c58 c59)
noncomputable def Wm (c43:(List Int)) (c44:Int) (l45:(List zd)) (c46:Int) (c47:Bs):Option (zx×zn):=
 (wv (zn.mk c43 c44) 4).bind fun r48=>if r48.1 then ((wo r48.2 ([[114,101,100],[114,101,100,44,32,98,108,117,101],[98,108,117,101,32,103,114,101,101,110],[114,101,100,32,114,101,100]])).bind fun r51=>(uq [99,97,99,104,101,45,116,97,103] r51.1 (zx.mk c46 l45 c47)).bind fun r53=>Wl r51.2.L r51.2.at_ r53.Headers r53.Status r53.Body) else (Wl r48.2.L r48.2.at_ l45 c46 c47)
noncomputable def Wn (c29:(List Int)) (c30:Int) (l31:(List zd)) (c32:Int) (c33:Bs):Option (zx×zn):=
 (wv (zn.mk c29 c30) 2).bind fun r34=>if r34.1 then ((wo r34.2 ([[101,116,97,103],[69,84,97,103]])).bind fun r37=>(wo r37.2 ([[34,118,49,34],[87,47,34,118,50,34],[118,51]])).bind fun r39=>(uq r37.1 r39.1 (zx.mk c32 l31 c33)).bind fun r41=>Wm r39.2.L r39.2.at_ r41.Headers r41.Status r41.Body) else (Wm r34.2.L r34.2.at_ l31 c32 c33)
noncomputable def Wp (c17:(List Int)) (c18:Int) (l19:(List zd)) (c20:Int) (c21:Bs):Option (zx×zn):=
 (wv (zn.mk c17 c18) 3).bind fun r22=>if r22.1 then ((wo r22.2 ([[97,99,99,101,112,116,45,108,97,110,103,117,97,103,101],[65,99,99,101,112,116,45,76,97,110,103,117,97,103,101,44,32,120,45,111,110,101],[42],[],[120,45,111,110,101,44,88,45,79,110,101]])).bind fun r25=>(uq [118,97,114,121] r25.1 (zx.mk c20 l19 c21)).bind fun r27=>Wn r25.2.L r25.2.at_ r27.Headers r27.Status r27.Body) else (Wn r22.2.L r22.2.at_ l19 c20 c21)
noncomputable def z1h (s1:zn):Option (zx×zn):=
 (Zo s1 [200,200,200,200,404,304,500,204,201]).bind fun r2=>(Zg [122] 50).bind fun r4=>(wo r2.2 ([[104,101,108,108,111],[120],[],r4])).bind fun r6=>(wv r6.2 6).bind fun r8=>if !r8.1 then ((wo r8.2 ([[99,97,99,104,101,45,99,111,110,116,114,111,108],[67,97,99,104,101,45,67,111,110,116,114,111,108]])).bind fun r11=>(z39 r11.2).bind fun r13=>(uq r11.1 r13.1 (zx.mk r2.1 ([]:List zd) r6.1)).bind fun r15=>Wp r13.2.L r13.2.at_ r15.Headers r15.Status r15.Body) else (Wp r8.2.L r8.2.at_ ([]:List zd) r2.1 r6.1)
noncomputable def z36 (s1:zn):Option (Bs×zn):=
 (Zg [97] 64).bind fun r2=>(wo s1 ([[97,46,98],[97,46,98],[65,46,66],[115,104,111,112,46,101,120,97,109,112,108,101],[97,46,98,58,56,48],[97,46,98,58,52,52,51],[97,46,98,58,56,48,56,48],[120,45,49,46,121],[49,46,50,46,51,46,52],[],[97,46,46,98],[45,97,46,98],[97,46,98,58,48],[97,46,98,58,48,56],[97,46,98,58,54,53,53,51,54],[97,95,98],[97,46,98,58],[97,32,98],r2])).bind fun r4=>some (r4.1,r4.2)
noncomputable def xt (r2:(ya×zn)) (r4:(zx×zn)) (c30:(List Int)) (c31:Int) (c32:Bs) (c33:Int) (c34:(List Bs)) (c35:Int):Option (zy×zn):=
 some ((zy.mk (ya.mk r2.1.At r2.1.Method c32 r2.1.Path r2.1.Query r2.1.From r2.1.Headers r2.1.Body) r4.1 c33 c34 c35),(zn.mk c30 c31))
noncomputable def z38 (s1:zn):Option (zy×zn):=
 (z1i s1 0).bind fun r2=>(z1h r2.2).bind fun r4=>(Zo r4.2 [0,1000,20000]).bind fun r6=>(jz r6.2 3).bind fun r8=>(at? ([[],[[114,101,100]],[[98,108,117,101],[114,101,100]]]) r8.1).bind fun (x10:(List Bs))=>(wv r8.2 20).bind fun r12=>if r12.1 then ((jz r12.2 4).bind fun r15=>if decide (r15.1=0) then ((Zp r15.2 0 100).bind fun r18=>xt r2 r4 r18.2.L r18.2.at_ r2.1.Host r18.1 x10 r6.1) else (if decide (r15.1=1) then ((Zp r15.2 0 100).bind fun r21=>xt r2 r4 r21.2.L r21.2.at_ r2.1.Host r6.1 x10 r21.1) else (if decide (r15.1=2) then ((jz r15.2 3).bind fun r24=>(at? ([[[114,101,100],[98,108,117,101]],[[]],[[65]]]) r24.1).bind fun (x26:(List Bs))=>xt r2 r4 r24.2.L r24.2.at_ r2.1.Host r6.1 x26 r6.1) else ((z36 r15.2).bind fun r28=>xt r2 r4 r28.2.L r28.2.at_ r28.1 r6.1 x10 r6.1)))) else (xt r2 r4 r12.2.L r12.2.at_ r2.1.Host r6.1 x10 r6.1)
noncomputable def z35 (s1:zn) (v2:Int):Option (Int×zn):=
 (Zo s1 [0,1,9999,10000,29999,30000,45000,59999,60000,60001,79999,80000,100000,159999,160000,1000000]).bind fun r3=>some (wr (v2+r3.1),r3.2)
noncomputable def Zm (n1:Int):Option (Bool):=
 some ((decide (0≤n1)) && (decide (n1 < 345686400000)))
noncomputable def z7a (c1:Int):Option (Bool):=
 some (((decide (97≤c1)) && (decide (c1≤122))) || ((decide (65≤c1)) && (decide (c1≤90))))
noncomputable def z7b (c1:Int):Option (Bool):=
 some ((decide (48≤c1)) && (decide (c1≤57)))
noncomputable def z0t (v14:Bool):Option (Bool):=
 some v14
noncomputable def z3r (c1:Int):Option (Bool):=
 (z7a c1).bind fun r2=>if r2 then (z0t true) else ((z7b c1).bind fun r6=>if r6 then (z0t true) else ((z69 [33,35,36,37,38,39,42,43,45,46,94,95,96,124,126] c1).bind fun r10=>z0t (decide (0≤r10))))
noncomputable def z64 (k2:Nat) (x5:UInt8):Option (Unit ⊕ (Bool)):=
 (z3r (x5.toNat:Int)).bind fun r8=>if !r8 then (some (.inr false)) else (some (.inl ()))
noncomputable def z9u (s1:Bs):Option (Bool):=
 some ((decide (s1≠[])) && (decide ((s1.length:Int)≤100)))
noncomputable def xi (s1:Bs):Option (Bool):=
 if s1.length≤1000000000 then forL (fun (k:Nat) (x:UInt8) (s:Unit)=>z64 k x) (fun (s:Unit)=>z9u s1) 0 s1 () else none
noncomputable def jm (c1:Int):Option (Int):=
 some (or_ .u8 c1 32)
noncomputable def z1x (v47:Int) (v85:Int):Option ((Int×Int) ⊕ (Bool)):=
 some (.inl (v85,wr (v47+1)))
noncomputable def uu (v14:Bs) (v46:Int) (v47:Int) (v78:Bool):Option ((Int×Int) ⊕ (Bool)):=
 if v78 then (z1x v47 48) else ((at? v14 v47).bind fun (x80:UInt8)=>if decide ((x80.toNat:Int)=95) then (if decide (v46≠48) then (some (.inr false)) else (z1x v47 95)) else (if decide (v46=95) then (some (.inr false)) else (z1x v47 33)))
noncomputable def z7v (v86:Int):Option (Bool):=
 some (decide (v86≠95))
noncomputable def y0n (v14:Bs) (v45:Bool) (v46:Int) (v47:Int):Option ((Int×Int) ⊕ (Bool)):=
 if decide (v47 < (v14.length:Int)) then ((at? v14 v47).bind fun (x50:UInt8)=>if decide (48≤(x50.toNat:Int)) then (if decide ((x50.toNat:Int)≤57) then (uu v14 v46 v47 true) else (if v45 then ((jm (x50.toNat:Int)).bind fun r58=>if decide (97≤r58) then ((jm (x50.toNat:Int)).bind fun r62=>uu v14 v46 v47 (decide (r62≤102))) else (uu v14 v46 v47 false)) else (uu v14 v46 v47 false))) else (if v45 then ((jm (x50.toNat:Int)).bind fun r70=>if decide (97≤r70) then ((jm (x50.toNat:Int)).bind fun r74=>uu v14 v46 v47 (decide (r74≤102))) else (uu v14 v46 v47 false)) else (uu v14 v46 v47 false))) else (Option.map .inr (z7v v46))
noncomputable def z4u (v14:Bs) (v43:Int) (v44:Int) (v45:Bool):Option (Bool):=
 iter (fun (s:Int×Int)=>y0n v14 v45 s.1 s.2) (v43,v44)
noncomputable def Zt (v14:Bs) (v37:Bool):Option (Bool):=
 if v37 then ((v14[1]?).bind fun (x39:UInt8)=>(jm (x39.toNat:Int)).bind fun r41=>z4u v14 48 2 (decide (r41=120))) else (z4u v14 94 0 false)
noncomputable def z4v (v14:Bs):Option (Bool):=
 if decide (2≤(v14.length:Int)) then ((v14[0]?).bind fun (x17:UInt8)=>if decide ((x17.toNat:Int)=48) then ((v14[1]?).bind fun (x21:UInt8)=>(jm (x21.toNat:Int)).bind fun r23=>if decide (r23=98) then (Zt v14 true) else ((jm (x21.toNat:Int)).bind fun r27=>if decide (r27=111) then (Zt v14 true) else ((jm (x21.toNat:Int)).bind fun r31=>Zt v14 (decide (r31=120))))) else (Zt v14 false)) else (Zt v14 false)
noncomputable def z1y (v1:Bs) (v10:Bool):Option (Bool):=
 if v10 then ((sub? v1 1 (v1.length:Int)).bind fun (l12:Bs)=>z4v l12) else (z4v v1)
noncomputable def z9x (v1:Bs):Option (Bool):=
 if decide (1≤(v1.length:Int)) then ((v1[0]?).bind fun (x4:UInt8)=>if decide ((x4.toNat:Int)=45) then (z1y v1 true) else (z1y v1 (decide ((x4.toNat:Int)=43)))) else (z1y v1 false)
noncomputable def z4w (v87:Bool) (v88:Int):Option ((Bool×Int) ⊕ (Int×Int)):=
 some (.inl (v87,v88))
noncomputable def z44 (v46:Int) (v49:Int) (v53:Int) (v55:Bool) (v56:Int) (v83:Int):Option ((Bool×Int) ⊕ (Int×Int)):=
 if decide ((IntKind.wrap .u8 v46)≤v83) then (some (.inr (0,2))) else (if decide (v53≤v56) then (some (.inr (IntKind.wrap .u64 ((shl_ .u64 1 (IntKind.wrap .u64 v49)) - 1),1))) else (if ((decide ((IntKind.wrap .u64 ((IntKind.wrap .u64 (v56 * (IntKind.wrap .u64 v46)))+(IntKind.wrap .u64 v83))) < (IntKind.wrap .u64 (v56 * (IntKind.wrap .u64 v46))))) || (decide ((IntKind.wrap .u64 ((shl_ .u64 1 (IntKind.wrap .u64 v49)) - 1)) < (IntKind.wrap .u64 ((IntKind.wrap .u64 (v56 * (IntKind.wrap .u64 v46)))+(IntKind.wrap .u64 v83)))))) then (some (.inr (IntKind.wrap .u64 ((shl_ .u64 1 (IntKind.wrap .u64 v49)) - 1),1))) else (z4w v55 (IntKind.wrap .u64 ((IntKind.wrap .u64 (v56 * (IntKind.wrap .u64 v46)))+(IntKind.wrap .u64 v83))))))
noncomputable def z43 (v46:Int) (v49:Int) (v53:Int) (v55:Bool) (v56:Int) (x60:Int) (v79:Bool):Option ((Bool×Int) ⊕ (Int×Int)):=
 if v79 then ((jm x60).bind fun r81=>z44 v46 v49 v53 v55 v56 (IntKind.wrap .u8 ((IntKind.wrap .u8 (r81 - 97))+10))) else (some (.inr (0,2)))
noncomputable def y0o (v2:Int) (v46:Int) (v49:Int) (v53:Int) (k57:Nat) (x60:Int) (v55:Bool) (v56:Int):Option ((Bool×Int) ⊕ (Int×Int)):=
 if ((decide (x60=95)) && (decide (v2=0))) then (z4w true v56) else (if ((decide (48≤x60)) && (decide (x60≤57))) then (z44 v46 v49 v53 v55 v56 (IntKind.wrap .u8 (x60 - 48))) else ((jm x60).bind fun r72=>if decide (97≤r72) then ((jm x60).bind fun r76=>z43 v46 v49 v53 v55 v56 x60 (decide (r76≤122))) else (z43 v46 v49 v53 v55 v56 x60 false)))
noncomputable def z4x (v56:Int) (v66:Bool):Option (Int×Int):=
 if v66 then (some (0,2)) else (some (v56,0))
noncomputable def y0p (v1:Bs) (v55:Bool) (v56:Int):Option (Int×Int):=
 if v55 then ((z9x v1).bind fun r63=>z4x v56 (!r63)) else (z4x v56 false)
noncomputable def z1z (v1:Bs) (v2:Int) (v45:Bs) (v46:Int) (v49:Int) (v53:Int):Option (Int×Int):=
 if (0:Int)≤(IntKind.wrap .u64 v49) then (if (vf v45).length≤1000000000 then forL (fun (k:Nat) (x:Int) (s:Bool×Int)=>y0o v2 v46 v49 v53 k x s.1 s.2) (fun (s:Bool×Int)=>y0p v1 s.1 s.2) 0 (vf v45) (false,0) else none) else none
noncomputable def z4y (v1:Bs) (v2:Int) (v45:Bs) (v46:Int) (v49:Int):Option (Int×Int):=
 if decide (v46=10) then (z1z v1 v2 v45 v46 v49 1844674407370955162) else (if decide (v46=16) then (z1z v1 v2 v45 v46 v49 1152921504606846976) else (if (IntKind.wrap .u64 v46)≠0 then (z1z v1 v2 v45 v46 v49 (IntKind.wrap .u64 ((IntKind.wrap .u64 (Int.tdiv 18446744073709551615 (IntKind.wrap .u64 v46)))+1))) else none))
noncomputable def xn (v1:Bs) (v2:Int) (v3:Int) (v45:Bs) (v46:Int):Option (Int×Int):=
 if decide (v3=0) then (z4y v1 v2 v45 v46 64) else (if ((decide (v3 < 0)) || (decide (64 < v3))) then (some (0,4)) else (z4y v1 v2 v45 v46 v3))
noncomputable def z4z (v1:Bs) (v2:Int) (v3:Int) (v39:Bool):Option (Int×Int):=
 if v39 then ((sub? v1 2 (v1.length:Int)).bind fun (l41:Bs)=>xn v1 v2 v3 l41 16) else ((sub? v1 1 (v1.length:Int)).bind fun (l43:Bs)=>xn v1 v2 v3 l43 8)
noncomputable def z41 (v1:Bs) (v2:Int) (v3:Int) (v28:Bool):Option (Int×Int):=
 if v28 then ((sub? v1 2 (v1.length:Int)).bind fun (l30:Bs)=>xn v1 v2 v3 l30 8) else (if decide (3≤(v1.length:Int)) then ((v1[1]?).bind fun (x34:UInt8)=>(jm (x34.toNat:Int)).bind fun r36=>z4z v1 v2 v3 (decide (r36=120))) else (z4z v1 v2 v3 false))
noncomputable def z42 (v1:Bs) (v2:Int) (v3:Int) (v17:Bool):Option (Int×Int):=
 if v17 then ((sub? v1 2 (v1.length:Int)).bind fun (l19:Bs)=>xn v1 v2 v3 l19 2) else (if decide (3≤(v1.length:Int)) then ((v1[1]?).bind fun (x23:UInt8)=>(jm (x23.toNat:Int)).bind fun r25=>z41 v1 v2 v3 (decide (r25=111))) else (z41 v1 v2 v3 false))
noncomputable def z9y (v1:Bs) (v2:Int) (v3:Int):Option (Int×Int):=
 if decide (v1=[]) then (some (0,2)) else (if ((decide (2≤v2)) && (decide (v2≤36))) then (xn v1 v2 v3 v1 v2) else (if decide (v2=0) then ((v1[0]?).bind fun (x7:UInt8)=>if decide ((x7.toNat:Int)=48) then (if decide (3≤(v1.length:Int)) then ((v1[1]?).bind fun (x12:UInt8)=>(jm (x12.toNat:Int)).bind fun r14=>z42 v1 v2 v3 (decide (r14=98))) else (z42 v1 v2 v3 false)) else (xn v1 v2 v3 v1 10)) else (some (0,3))))
noncomputable def z45 (v29:Int):Option (Int×Int):=
 some (v29,0)
noncomputable def z47 (v14:Bool) (r15:(Int×Int)) (v24:Int):Option (Int×Int):=
 if (0:Int)≤(IntKind.wrap .u64 (wr (v24 - 1))) then (if ((!v14) && (decide ((shl_ .u64 1 (IntKind.wrap .u64 (wr (v24 - 1))))≤r15.1))) then (some (IntKind.wrap .i64 (IntKind.wrap .u64 ((shl_ .u64 1 (IntKind.wrap .u64 (wr (v24 - 1)))) - 1)),1)) else (if (v14 && (decide ((shl_ .u64 1 (IntKind.wrap .u64 (wr (v24 - 1)))) < r15.1))) then (some ((wr (-(IntKind.wrap .i64 (shl_ .u64 1 (IntKind.wrap .u64 (wr (v24 - 1))))))),1)) else (if v14 then (z45 (wr (-(IntKind.wrap .i64 r15.1)))) else (z45 (IntKind.wrap .i64 r15.1))))) else none
noncomputable def z48 (v3:Int) (v14:Bool) (r15:(Int×Int)) (v21:Bool):Option (Int×Int):=
 if v21 then (some (0,r15.2)) else (if decide (v3=0) then (z47 v14 r15 64) else (z47 v14 r15 v3))
noncomputable def z10 (v2:Int) (v3:Int) (v13:Bs) (v14:Bool):Option (Int×Int):=
 (z9y v13 v2 v3).bind fun r15=>if decide (r15.2≠0) then (if (0:Int)≤r15.2∧r15.2≤(4:Int) then (z48 v3 v14 r15 (decide (r15.2≠1))) else none) else (z48 v3 v14 r15 false)
noncomputable def z9z (v1:Bs) (v2:Int) (v3:Int):Option (Int×Int):=
 if decide (v1=[]) then (some (0,2)) else ((v1[0]?).bind fun (x5:UInt8)=>if decide ((x5.toNat:Int)=43) then ((sub? v1 1 (v1.length:Int)).bind fun (l8:Bs)=>z10 v2 v3 l8 false) else (if decide ((x5.toNat:Int)=45) then ((sub? v1 1 (v1.length:Int)).bind fun (l11:Bs)=>z10 v2 v3 l11 true) else (z10 v2 v3 v1 false)))
noncomputable def z11 (k15:Nat) (x18:Int) (v14:Int):Option (Int ⊕ (Int×Int)):=
 if decide (9 < (IntKind.wrap .u8 (x18 - 48))) then (some (.inr (0,2))) else (some (.inl (wr ((wr (v14 * 10))+(IntKind.wrap .i64 (IntKind.wrap .u8 (x18 - 48)))))))
noncomputable def Qm (v23:Int):Option (Int×Int):=
 some (v23,0)
noncomputable def Qp (v1:Bs) (v14:Int):Option (Int×Int):=
 (v1[0]?).bind fun (x19:UInt8)=>if decide ((x19.toNat:Int)=45) then (if -9223372036854775807≤v14∧v14≤9223372036854775807 then (Qm (-v14)) else none) else (Qm v14)
noncomputable def Qo (v1:Bs) (v13:Bs):Option (Int×Int):=
 if (vf v13).length≤1000000000 then forL (fun (k:Nat) (x:Int) (s:Int)=>z11 k x s) (fun (s:Int)=>Qp v1 s) 0 (vf v13) 0 else none
noncomputable def Qn (v1:Bs) (v8:Bool):Option (Int×Int):=
 if v8 then ((sub? v1 1 (v1.length:Int)).bind fun (l10:Bs)=>if decide ((l10.length:Int) < 1) then (some (0,2)) else (Qo v1 l10)) else (Qo v1 v1)
noncomputable def Yy (v1:Bs):Option (Int×Int):=
 if ((false && ((decide (0 < (v1.length:Int))) && (decide ((v1.length:Int) < 10)))) || (true && ((decide (0 < (v1.length:Int))) && (decide ((v1.length:Int) < 19))))) then ((v1[0]?).bind fun (x3:UInt8)=>if decide ((x3.toNat:Int)=45) then (Qn v1 true) else (Qn v1 (decide ((x3.toNat:Int)=43)))) else ((z9z v1 10 0).bind fun r27=>some (r27.1,r27.2))
noncomputable def xh (s1:Bs):Option (Int×Int):=
 (Yy s1).bind fun r2=>if decide (r2.2≠0) then ((y4d [65,116,111,105] s1 0 0 r2.2).bind fun r5=>some (r2.1,r5)) else (some (r2.1,0))
noncomputable def z4k (v29:Bool):Option (Unit ⊕ (Int×Bool)):=
 if v29 then (some (.inr (0,false))) else (some (.inl ()))
noncomputable def z4j (i18:Nat) (x21:UInt8):Option (Unit ⊕ (Int×Bool)):=
 if decide ((x21.toNat:Int) < 48) then (z4k true) else (z4k (decide (57 < (x21.toNat:Int))))
noncomputable def z1s (s1:Bs):Option (Int×Bool):=
 (xh s1).bind fun r22=>some (r22.1,decide (r22.2=0))
noncomputable def ka (s1:Bs) (r3:(Bs)) (v16:Bool):Option (Int×Bool):=
 if v16 then (some (0,false)) else (if r3.length≤1000000000 then forL (fun (k:Nat) (x:UInt8) (s:Unit)=>z4j k x) (fun (s:Unit)=>z1s s1) 0 r3 () else none)
noncomputable def z1a (s1:Bs) (most2:Int):Option (Int×Bool):=
 (z3k s1 [45]).bind fun r3=>if decide (r3=[]) then (ka s1 r3 true) else (if decide (most2 < (r3.length:Int)) then (ka s1 r3 true) else ((r3[0]?).bind fun (x9:UInt8)=>if decide ((x9.toNat:Int)=48) then (ka s1 r3 (decide (s1≠[48]))) else (ka s1 r3 false)))
noncomputable def z3u (s1:Bs):Option (Int×Bool):=
 (z1a s1 9).bind fun r2=>some (r2.1,r2.2)
noncomputable def z09 (n1:Int) (low2:Int) (high3:Int):Option (Bool):=
 some ((decide (n1 < low2)) || (decide (high3 < n1)))
noncomputable def Yn (v19:Bool):Option (Bool):=
 some v19
noncomputable def z0v (v32:Bool):Option (Unit ⊕ (Bool)):=
 if v32 then (some (.inr false)) else (some (.inl ()))
noncomputable def z9s (k2:Nat) (x5:UInt8):Option (Unit ⊕ (Bool)):=
 (z7a (x5.toNat:Int)).bind fun r22=>if !r22 then ((z7b (x5.toNat:Int)).bind fun r26=>if !r26 then (z0v (decide ((x5.toNat:Int)≠45))) else (z0v false)) else (z0v false)
noncomputable def z9t (s1:Bs):Option (Bool):=
 if decide (s1≠[]) then (if decide ((s1.length:Int)≤63) then ((s1[0]?).bind fun (x10:UInt8)=>if decide ((x10.toNat:Int)≠45) then ((at? s1 (wr ((s1.length:Int) - 1))).bind fun (x14:UInt8)=>Yn (decide ((x14.toNat:Int)≠45))) else (Yn false)) else (Yn false)) else (Yn false)
noncomputable def z9w (s1:Bs):Option (Bool):=
 if s1.length≤1000000000 then forL (fun (k:Nat) (x:UInt8) (s:Unit)=>z9s k x) (fun (s:Unit)=>z9t s1) 0 s1 () else none
noncomputable def Yo (v23:Bool):Option (Bool):=
 some v23
noncomputable def z61 (k6:Nat) (x9:Bs):Option (Unit ⊕ (Bool)):=
 (z9w x9).bind fun r26=>if !r26 then (some (.inr false)) else (some (.inl ()))
noncomputable def z62 (s1:Bs) (r2:(Bs×Bs×Bool)):Option (Bool):=
 (z3u r2.2.1).bind fun r10=>if decide ((s1.length:Int)≤255) then (if !r2.2.2 then (Yo true) else (if r10.2 then ((z09 r10.1 1 65535).bind fun r18=>Yo (!r18)) else (Yo false))) else (Yo false)
noncomputable def z07 (s1:Bs):Option (Bool):=
 (Zh s1 [58]).bind fun r2=>(ky r2.1 [46]).bind fun r4=>if r4.length≤1000000000 then forL (fun (k:Nat) (x:Bs) (s:Unit)=>z61 k x) (fun (s:Unit)=>z62 s1 r2) 0 r4 () else none
noncomputable def z0u (v13:Bool):Option (Unit ⊕ (Bool)):=
 if v13 then (some (.inr false)) else (some (.inl ()))
noncomputable def z6z (low2:Int) (high3:Int) (k4:Nat) (x7:UInt8):Option (Unit ⊕ (Bool)):=
 if decide ((x7.toNat:Int) < low2) then (z0u true) else (z0u (decide (high3 < (x7.toNat:Int))))
noncomputable def z60:Option (Bool):=
 some true
noncomputable def Zj (s1:Bs) (low2:Int) (high3:Int):Option (Bool):=
 if s1.length≤1000000000 then forL (fun (k:Nat) (x:UInt8) (s:Unit)=>z6z low2 high3 k x) (fun (s:Unit)=>z60) 0 s1 () else none
noncomputable def Ze (v17:Bool):Option (Int):=
 if v17 then some 3 else some 0
noncomputable def z3t (s1:Bs):Option (Int):=
 if decide (1000 < (s1.length:Int)) then (Ze true) else ((z9v s1 [47]).bind fun r4=>if !r4 then (Ze true) else ((Zj s1 33 126).bind fun r8=>if !r8 then (Ze true) else ((z02 s1 [63,35]).bind fun r12=>Ze r12)))
noncomputable def Ym (v12:Bool):Option (Int):=
 if v12 then some 3 else some 0
noncomputable def z3q (s1:Bs):Option (Int):=
 if decide (1000 < (s1.length:Int)) then (Ym true) else ((Zj s1 33 126).bind fun r4=>if !r4 then (Ym true) else ((z03 s1 [35]).bind fun r8=>Ym r8))
noncomputable def z3a (s14:Bs):Option (Bs):=
 some s14
noncomputable def Yf (s3:Bs) (v10:Bool):Option (Bs ⊕ (Bs)):=
 if v10 then ((sub? s3 0 (wr ((s3.length:Int) - 1))).bind fun (l12:Bs)=>some (.inl l12)) else (Option.map .inr (z3a s3))
noncomputable def z29 (c2:Int) (s3:Bs):Option (Bs ⊕ (Bs)):=
 if decide (0 < (s3.length:Int)) then ((at? s3 (wr ((s3.length:Int) - 1))).bind fun (x7:UInt8)=>Yf s3 (decide ((x7.toNat:Int)=c2))) else (Yf s3 false)
noncomputable def Zf (s1:Bs) (c2:Int):Option (Bs):=
 iter (fun (s:Bs)=>z29 c2 s) s1
noncomputable def z3c (s14:Bs):Option (Bs):=
 some s14
noncomputable def Yg (s3:Bs) (v10:Bool):Option (Bs ⊕ (Bs)):=
 if v10 then ((sub? s3 1 (s3.length:Int)).bind fun (l12:Bs)=>some (.inl l12)) else (Option.map .inr (z3c s3))
noncomputable def z3b (c2:Int) (s3:Bs):Option (Bs ⊕ (Bs)):=
 if decide (0 < (s3.length:Int)) then ((s3[0]?).bind fun (x7:UInt8)=>Yg s3 (decide ((x7.toNat:Int)=c2))) else (Yg s3 false)
noncomputable def Yr (s1:Bs) (c2:Int):Option (Bs):=
 iter (fun (s:Bs)=>z3b c2 s) s1
noncomputable def z0p (s1:Bs) (cutset2:Bs) (v9:Bool):Option (Bs):=
 if v9 then ((cutset2[0]?).bind fun (x11:UInt8)=>(Zf s1 (x11.toNat:Int)).bind fun r13=>(Yr r13 (x11.toNat:Int)).bind fun r15=>some r15) else none
noncomputable def xg (s1:Bs) (cutset2:Bs):Option (Bs):=
 if ((decide (s1=[])) || (decide (cutset2=[]))) then some s1 else (if decide ((cutset2.length:Int)=1) then ((cutset2[0]?).bind fun (x6:UInt8)=>z0p s1 cutset2 (decide ((x6.toNat:Int) < 128))) else (z0p s1 cutset2 false))
noncomputable def Yq (v12:Bool):Option (Bool):=
 some v12
noncomputable def Zl (s1:Bs):Option (Bool):=
 if decide ((s1.length:Int)≤2000) then ((Zj s1 32 126).bind fun r4=>if r4 then ((xg s1 [32]).bind fun r8=>Yq (decide (r8=s1))) else (Yq false)) else (Yq false)
noncomputable def z65 (k3:Nat) (x6:zd):Option (Unit ⊕ (Int)):=
 (xi x6.Name).bind fun r9=>if !r9 then (some (.inr 5)) else ((Zl x6.Value).bind fun r12=>if !r12 then (some (.inr 3)) else (some (.inl ())))
noncomputable def z66:Option (Int):=
 some 0
noncomputable def Yw (l1:(List zd)):Option (Int):=
 if decide (50 < (l1.length:Int)) then some 2 else (if l1.length≤1000000000 then forL (fun (k:Nat) (x:zd) (s:Unit)=>z65 k x) (fun (s:Unit)=>z66) 0 l1 () else none)
noncomputable def xe (r1:ya) (v25:Bool):Option (Int):=
 if v25 then some 3 else ((Yw r1.Headers).bind fun r27=>if decide (r27≠0) then some r27 else (if decide (20000 < (r1.Body.length:Int)) then some 2 else some 0))
noncomputable def xj (r1:ya):Option (Int):=
 (Zm r1.At).bind fun r2=>if !r2 then some 1 else ((xi r1.Method).bind fun r5=>if !r5 then some 5 else ((z07 r1.Host).bind fun r8=>if !r8 then (xe r1 true) else ((z3t r1.Path).bind fun r12=>if decide (r12≠0) then (xe r1 true) else ((z3q r1.Query).bind fun r16=>if decide (r16≠0) then (xe r1 true) else ((Zl r1.From).bind fun r20=>xe r1 (!r20))))))
noncomputable def ug (a1:zx):Option (Int):=
 (z09 a1.Status 100 599).bind fun r2=>if r2 then some 1 else ((Yw a1.Headers).bind fun r5=>if decide (r5≠0) then some r5 else (if decide (20000 < (a1.Body.length:Int)) then some 2 else some 0))
noncomputable def z7m (i2:Nat) (x5:UInt8):Option (Unit ⊕ (Bool)):=
 if !(((decide (97≤(x5.toNat:Int))) && (decide ((x5.toNat:Int)≤122))) || ((decide (0 < (i2:Int))) && ((((decide (48≤(x5.toNat:Int))) && (decide ((x5.toNat:Int)≤57))) || (decide ((x5.toNat:Int)=45))) || (decide ((x5.toNat:Int)=95))))) then (some (.inr false)) else (some (.inl ()))
noncomputable def z93 (s1:Bs):Option (Bool):=
 some ((decide (s1≠[])) && (decide ((s1.length:Int)≤40)))
noncomputable def Yx (s1:Bs):Option (Bool):=
 if s1.length≤1000000000 then forL (fun (k:Nat) (x:UInt8) (s:Unit)=>z7m k x) (fun (s:Unit)=>z93 s1) 0 s1 () else none
noncomputable def z1r (v16:Bool):Option (Unit ⊕ (Int)):=
 if v16 then (some (.inr 7)) else (some (.inl ()))
noncomputable def z1q (l1:(List Bs)) (k2:Nat) (x5:Bs):Option (Unit ⊕ (Int)):=
 (Yx x5).bind fun r8=>if !r8 then (some (.inr 5)) else (if decide (0 < (k2:Int)) then ((at? l1 ((k2:Int) - 1)).bind fun (x13:Bs)=>z1r (Op.bytesLess x5 x13 || x5 == x13)) else (z1r false))
noncomputable def z7l:Option (Int):=
 some 0
noncomputable def z7c (l1:(List Bs)):Option (Int):=
 if l1.length≤1000000000 then forL (fun (k:Nat) (x:Bs) (s:Unit)=>z1q l1 k x) (fun (s:Unit)=>z7l) 0 l1 () else none
noncomputable def Yv (h1:zd) (name2:Bs):Option (Bool):=
 (Ys h1.Name name2).bind fun r3=>some r3
noncomputable def z0w (out14:(List Bs)):Option ((List Bs) ⊕ ((List Bs))):=
 some (.inl out14)
noncomputable def Yp (name2:Bs) (k4:Nat) (x7:zd) (l3:(List Bs)):Option ((List Bs) ⊕ ((List Bs))):=
 (Yv x7 name2).bind fun r10=>if r10 then (if l3.length+1≤1000000000 then (z0w (l3++[x7.Value])) else none) else (z0w l3)
noncomputable def z63 (l3:(List Bs)):Option ((List Bs)):=
 some l3
noncomputable def kj (l1:(List zd)) (name2:Bs):Option ((List Bs)):=
 if l1.length≤1000000000 then forL (fun (k:Nat) (x:zd) (s:(List Bs))=>Yp name2 k x s) (fun (s:(List Bs))=>z63 s) 0 l1 [] else none
noncomputable def xd (out22:(List Bs)):Option ((List Bs) ⊕ ((List Bs) ⊕ ((List Bs)))):=
 some (.inl out22)
noncomputable def xb (k12:Nat) (x15:Bs) (l11:(List Bs)):Option ((List Bs) ⊕ ((List Bs) ⊕ ((List Bs)))):=
 (xg x15 [32]).bind fun r18=>if decide (r18≠[]) then (if l11.length+1≤1000000000 then (xd (l11++[r18])) else none) else (xd l11)
noncomputable def z0x (l11:(List Bs)):Option ((List Bs) ⊕ ((List Bs))):=
 some (.inl l11)
noncomputable def xc (k3:Nat) (x6:Bs) (l2:(List Bs)):Option ((List Bs) ⊕ ((List Bs))):=
 (ky x6 [44]).bind fun r9=>if r9.length≤1000000000 then forL (fun (k:Nat) (x:Bs) (s:(List Bs))=>xb k x s) (fun (s:(List Bs))=>z0x s) 0 r9 l2 else none
noncomputable def z0y (l2:(List Bs)):Option ((List Bs)):=
 some l2
noncomputable def Zk (values1:(List Bs)):Option ((List Bs)):=
 if values1.length≤1000000000 then forL (fun (k:Nat) (x:Bs) (s:(List Bs))=>xc k x s) (fun (s:(List Bs))=>z0y s) 0 values1 [] else none
noncomputable def z85 (v2:Bs) (k3:Nat) (x6:Bs):Option (Unit ⊕ (Int)):=
 if decide (v2=x6) then (some (.inr (k3:Int))) else (some (.inl ()))
noncomputable def z86:Option (Int):=
 some (-1)
noncomputable def Yt (s1:(List Bs)) (v2:Bs):Option (Int):=
 if s1.length≤1000000000 then forL (fun (k:Nat) (x:Bs) (s:Unit)=>z85 v2 k x) (fun (s:Unit)=>z86) 0 s1 () else none
noncomputable def z3o (s1:(List Bs)) (v2:Bs):Option (Bool):=
 (Yt s1 v2).bind fun r3=>some (decide (0≤r3))
noncomputable def xk (l1:(List Bs)):Option ((List Bs)):=
 (wu l1).bind fun r2=>(uf r2).bind fun r4=>(Zi r4).bind fun r6=>some r6
noncomputable def z0b (k7:Nat) (l6:(List Bs)):Option ((List Bs) ⊕ ((List Bs)×Bool×Int)):=
 (l6[k7]?).bind fun (x17:Bs)=>(xi x17).bind fun r19=>if !r19 then (some (.inr ([],false,9))) else ((jw x17).bind fun r22=>some (.inl (l6.set k7 r22)))
noncomputable def Yb (l6:(List Bs)):Option ((List Bs)×Bool×Int):=
 (z3o l6 [42]).bind fun r10=>if r10 then (some ([],true,0)) else ((xk l6).bind fun r13=>if decide (10 < (r13.length:Int)) then (some ([],false,2)) else (some (r13,false,0)))
noncomputable def Zq (a1:zx):Option ((List Bs)×Bool×Int):=
 (kj a1.Headers [118,97,114,121]).bind fun r2=>(Zk r2).bind fun r4=>if r4.length≤1000000000 then rng (fun (k:Nat) (s:(List Bs))=>z0b k s) (fun (s:(List Bs))=>Yb s) r4.length 0 r4 else none
noncomputable def z0h (e1:zy) (v15:Bool):Option (Int):=
 if v15 then some 1 else (if decide (20 < (e1.Tags.length:Int)) then some 2 else ((z7c e1.Tags).bind fun r18=>if decide (r18≠0) then some r18 else ((Zq e1.Response).bind fun r21=>some r21.2.2)))
noncomputable def Zs (e1:zy):Option (Int):=
 (xj e1.Request).bind fun r2=>if decide (r2≠0) then some r2 else ((ug e1.Response).bind fun r5=>if decide (r5≠0) then some r5 else ((Zm e1.At).bind fun r8=>if !r8 then (z0h e1 true) else ((Zm e1.Used).bind fun r12=>z0h e1 (!r12))))
noncomputable def z1m (e1:zy) (r2:ya):Option (Int):=
 (Zs e1).bind fun r3=>if decide (r3≠0) then some r3 else ((xj r2).bind fun r6=>some r6)
noncomputable def z06 (l1:(List zd)) (name2:Bs):Option (Int):=
 (Yw l1).bind fun r3=>if decide (r3≠0) then some r3 else ((xi name2).bind fun r6=>if !r6 then some 5 else some 0)
noncomputable def z87 (p1:zd→Option (Bool)) (k2:Nat) (x5:zd):Option (Unit ⊕ (Int)):=
 (p1 x5).bind fun r8=>if r8 then (some (.inr (k2:Int))) else (some (.inl ()))
noncomputable def z88:Option (Int):=
 some (-1)
noncomputable def z3l (s1:(List zd)) (p1:zd→Option (Bool)):Option (Int):=
 if s1.length≤1000000000 then forL (fun (k:Nat) (x:zd) (s:Unit)=>z87 p1 k x) (fun (s:Unit)=>z88) 0 s1 () else none
noncomputable def z3g (j6:Int) (i17:Int) (s18:(List zd)):Option ((Int×Int×(List zd)) ⊕ ((List zd))):=
 some (.inl (i17,wr (j6+1),s18))
noncomputable def z6m (i19:Int) (s20:(List zd)):Option ((List zd)):=
 if (0:Int)≤i19∧i19 < (s20.length:Int) then (if (0:Int)≤i19∧i19≤((s20.take i19.toNat++List.replicate (s20.length - i19.toNat) (zd.mk [] [])).length:Int) then (some ((s20.take i19.toNat++List.replicate (s20.length - i19.toNat) (zd.mk [] [])).take i19.toNat)) else none) else none
noncomputable def z9c (p1:zd→Option (Bool)) (i5:Int) (j6:Int) (l7:(List zd)):Option ((Int×Int×(List zd)) ⊕ ((List zd))):=
 if decide (j6 < (l7.length:Int)) then ((at? l7 j6).bind fun (x10:zd)=>(p1 x10).bind fun r12=>if !r12 then ((at? l7 i5).bind fun (x15:zd)=>z3g j6 (wr (i5+1)) (l7.set i5.toNat x10)) else (z3g j6 i5 l7)) else (Option.map .inr (z6m i5 l7))
noncomputable def z04 (s1:(List zd)) (p1:zd→Option (Bool)):Option ((List zd)):=
 (z3l s1 p1).bind fun r2=>if decide (r2=(-1)) then some s1 else (iter (fun (s:Int×Int×(List zd))=>z9c p1 s.1 s.2.1 s.2.2) (r2,wr (r2+1),s1))
noncomputable def Yu (h1:zd) (c2:Bs):Option (Bool):=
 (Yv h1 c2).bind fun r3=>some r3
noncomputable def z05 (l1:(List zd)) (name2:Bs):Option ((List zd)):=
 (wu l1).bind fun r3=>(z04 r3 (fun (a0:zd)=>Yu a0 name2)).bind fun r5=>some r5
noncomputable def z08 (l1:(List zd)) (name2:Bs):Option ((List zd)×Int):=
 (z06 l1 name2).bind fun r3=>if decide (r3≠0) then (some ([],r3)) else ((z05 l1 name2).bind fun r6=>some (r6,0))
noncomputable def z0g (r2:ya) (l15:(List zd)):Option (ya×Int):=
 if decide (50 < (l15.length:Int)) then (some ((ya.mk 0 [] [] [] [] [] [] []),2)) else (some ((ya.mk r2.At r2.Method r2.Host r2.Path r2.Query r2.From l15 r2.Body),0))
noncomputable def Qj (e1:zy) (r2:ya):Option (ya×Int):=
 (z1m e1 r2).bind fun r3=>if decide (r3≠0) then (some ((ya.mk 0 [] [] [] [] [] [] []),r3)) else ((z08 r2.Headers [105,102,45,110,111,110,101,45,109,97,116,99,104]).bind fun r6=>if decide (r6.2≠0) then (some ((ya.mk 0 [] [] [] [] [] [] []),r6.2)) else ((kj e1.Response.Headers [101,116,97,103]).bind fun r9=>if decide (0 < (r9.length:Int)) then ((r9[0]?).bind fun (x12:Bs)=>if r6.1.length+1≤1000000000 then (z0g r2 (r6.1++([(zd.mk [105,102,45,110,111,110,101,45,109,97,116,99,104] x12)]))) else none) else (z0g r2 r6.1)))
noncomputable def z7g (e1:zy) (v2:Int):Option (Int):=
 (Zm v2).bind fun r3=>if !r3 then some 1 else (if decide (v2 < e1.At) then some 7 else some 0)
noncomputable def z7i (r1:ya):Option (ya):=
 (wu r1.Headers).bind fun r2=>some (ya.mk r1.At r1.Method r1.Host r1.Path r1.Query r1.From r2 r1.Body)
noncomputable def Qi (a1:zx):Option (zx):=
 (wu a1.Headers).bind fun r2=>some (zx.mk a1.Status r2 a1.Body)
noncomputable def z4i (e1:zy):Option (zy):=
 (z7i e1.Request).bind fun r2=>(Qi e1.Response).bind fun r4=>(wu e1.Tags).bind fun r6=>some (zy.mk r2 r4 e1.At r6 e1.Used)
noncomputable def Zr (r1:Int):Option (Bool):=
 some ((decide (r1=32)) || (decide (r1=44)))
noncomputable def z0c (l4:(List Bs)) (k9:Nat):Option (Unit ⊕ ((List Bs)×Int)):=
 (l4[k9]?).bind fun (x16:Bs)=>(Yx x16).bind fun r18=>if !r18 then (some (.inr ([],5))) else (some (.inl ()))
noncomputable def z5i (l4:(List Bs)):Option ((List Bs)×Int):=
 (xk l4).bind fun r12=>if decide (20 < (r12.length:Int)) then (some ([],2)) else (some (r12,0))
noncomputable def z0d (k5:Nat) (x8:Bs) (l4:(List Bs)):Option ((List Bs) ⊕ ((List Bs)×Int)):=
 (z00 x8 (fun (a0:Int)=>Zr a0)).bind fun r23=>if l4.length+r23.length≤1000000000 then (some (.inl (l4++r23))) else none
noncomputable def z2s (l4:(List Bs)):Option ((List Bs)×Int):=
 if l4.length≤1000000000 then rng (fun (k:Nat) (s:Unit)=>z0c l4 k) (fun (s:Unit)=>z5i l4) l4.length 0 () else none
noncomputable def z4d (a1:zx):Option ((List Bs)×Int):=
 (kj a1.Headers [99,97,99,104,101,45,116,97,103]).bind fun r2=>if r2.length≤1000000000 then forL (fun (k:Nat) (x:Bs) (s:(List Bs))=>z0d k x s) (fun (s:(List Bs))=>z2s s) 0 r2 [] else none
noncomputable def Yl (out12:(List zd)):Option ((List zd)):=
 some out12
noncomputable def um (done21:Bool) (out22:(List zd)):Option ((Bool×(List zd)) ⊕ ((List zd))):=
 some (.inl (done21,out22))
noncomputable def jh (name2:Bs) (value3:Bs) (k6:Nat) (x9:zd) (done4:Bool) (l5:(List zd)):Option ((Bool×(List zd)) ⊕ ((List zd))):=
 (Yv x9 name2).bind fun r15=>if !r15 then (if l5.length+1≤1000000000 then (um done4 (l5++[x9])) else none) else (if !done4 then (if l5.length+1≤1000000000 then (um true (l5++[(zd.mk x9.Name value3)])) else none) else (um done4 l5))
noncomputable def xa (name2:Bs) (value3:Bs) (done4:Bool) (l5:(List zd)):Option ((List zd)):=
 if !done4 then (if l5.length+1≤1000000000 then (Yl (l5++[(zd.mk name2 value3)])) else none) else (Yl l5)
noncomputable def z3p (l1:(List zd)) (name2:Bs) (value3:Bs):Option ((List zd)):=
 if l1.length≤1000000000 then forL (fun (k:Nat) (x:zd) (s:Bool×(List zd))=>jh name2 value3 k x s.1 s.2) (fun (s:Bool×(List zd))=>xa name2 value3 s.1 s.2) 0 l1 (false,[]) else none
noncomputable def z3s (l1:(List zd)) (name2:Bs) (value3:Bs):Option ((List zd)×Int):=
 (z06 l1 name2).bind fun r4=>if decide (r4≠0) then (some ([],r4)) else ((Zl value3).bind fun r7=>if !r7 then (some ([],3)) else ((z3p l1 name2 value3).bind fun r10=>if decide (50 < (r10.length:Int)) then (some ([],2)) else (some (r10,0))))
noncomputable def z2v (c25:(List zd)):Option ((List zd) ⊕ (zy×Int)):=
 some (.inl c25)
noncomputable def z2u (k13:Nat) (x16:zd) (c12:(List zd)):Option ((List zd) ⊕ (zy×Int)):=
 (Ys x16.Name [99,111,110,116,101,110,116,45,108,101,110,103,116,104]).bind fun r19=>if r19 then (z2v c12) else ((z3s c12 x16.Name x16.Value).bind fun r22=>if decide (r22.2≠0) then (some (.inr ((zy.mk (ya.mk 0 [] [] [] [] [] [] []) (zx.mk 0 [] []) 0 [] 0),r22.2))) else (z2v r22.1))
noncomputable def z0f (v3:Int) (r4:(zy)) (c26:Int) (c27:(List zd)) (c28:Bs) (c29:(List Bs)):Option (zy×Int):=
 (Zs (zy.mk r4.Request (zx.mk c26 c27 c28) v3 c29 v3)).bind fun r30=>if decide (r30≠0) then (some ((zy.mk (ya.mk 0 [] [] [] [] [] [] []) (zx.mk 0 [] []) 0 [] 0),r30)) else (some ((zy.mk r4.Request (zx.mk c26 c27 c28) v3 c29 v3),0))
noncomputable def y08 (v3:Int) (r4:(zy)) (c12:(List zd)):Option (zy×Int):=
 z0f v3 r4 r4.Response.Status c12 r4.Response.Body r4.Tags
noncomputable def z4h (v1:zy) (v2:zx) (v3:Int):Option (zy×Int):=
 (z4i v1).bind fun r4=>if decide (v2.Status≠304) then ((z4d v2).bind fun r7=>if decide (r7.2≠0) then (some ((zy.mk (ya.mk 0 [] [] [] [] [] [] []) (zx.mk 0 [] []) 0 [] 0),r7.2)) else ((Qi v2).bind fun r10=>z0f v3 r4 r10.Status r10.Headers r10.Body r7.1)) else (if v2.Headers.length≤1000000000 then forL (fun (k:Nat) (x:zd) (s:(List zd))=>z2u k x s) (fun (s:(List zd))=>y08 v3 r4 s) 0 v2.Headers r4.Response.Headers else none)
noncomputable def ur (e1:zy) (a2:zx) (v3:Int):Option (zy×Int):=
 (Zs e1).bind fun r4=>if decide (r4≠0) then (some ((zy.mk (ya.mk 0 [] [] [] [] [] [] []) (zx.mk 0 [] []) 0 [] 0),r4)) else ((ug a2).bind fun r7=>if decide (r7≠0) then (some ((zy.mk (ya.mk 0 [] [] [] [] [] [] []) (zx.mk 0 [] []) 0 [] 0),r7)) else ((z7g e1 v3).bind fun r10=>if decide (r10≠0) then (some ((zy.mk (ya.mk 0 [] [] [] [] [] [] []) (zx.mk 0 [] []) 0 [] 0),r10)) else ((z4h e1 a2 v3).bind fun r13=>some (r13.1,r13.2))))
noncomputable def jy (n1:Int) (low2:Int) (high3:Int):Option (Bool):=
 some ((decide (low2≤n1)) && (decide (n1≤high3)))
noncomputable def Qd (v1:Int):Option (Bool):=
 (jy v1 0 345686399999).bind fun r2=>some r2
noncomputable def z73 (some2:Bs) (k3:Nat) (x6:UInt8):Option (Unit ⊕ (Bool)):=
 (z69 some2 (x6.toNat:Int)).bind fun r9=>if decide (r9 < 0) then (some (.inr false)) else (some (.inl ()))
noncomputable def y0w:Option (Bool):=
 some true
noncomputable def uh (s1:Bs) (some2:Bs):Option (Bool):=
 if s1.length≤1000000000 then forL (fun (k:Nat) (x:UInt8) (s:Unit)=>z73 some2 k x) (fun (s:Unit)=>y0w) 0 s1 () else none
noncomputable def z17 (v9:Bool):Option (Bool):=
 some v9
noncomputable def Yz (s1:Bs):Option (Bool):=
 (jy (s1.length:Int) 1 100).bind fun r2=>if r2 then ((uh s1 [97,98,99,100,101,102,103,104,105,106,107,108,109,110,111,112,113,114,115,116,117,118,119,120,121,122,65,66,67,68,69,70,71,72,73,74,75,76,77,78,79,80,81,82,83,84,85,86,87,88,89,90,48,49,50,51,52,53,54,55,56,57,33,35,36,37,38,39,42,43,45,46,94,95,96,124,126]).bind fun r6=>z17 r6) else (z17 false)
noncomputable def z5e (r15:(Int×Int)) (v22:Bool):Option (Int×Bool):=
 some (r15.1,v22)
noncomputable def z18 (s1:Bs) (v13:Bool):Option (Int×Bool):=
 if v13 then (some (0,false)) else ((xh s1).bind fun r15=>if decide (r15.2=0) then ((y4e r15.1).bind fun r19=>z5e r15 (decide (r19=s1))) else (z5e r15 false))
noncomputable def z7e (s1:Bs) (most2:Int):Option (Int×Bool):=
 (z3k s1 [45]).bind fun r3=>if decide (r3=[]) then (z18 s1 true) else (if decide (most2 < (r3.length:Int)) then (z18 s1 true) else ((uh r3 [48,49,50,51,52,53,54,55,56,57]).bind fun r9=>z18 s1 (!r9)))
noncomputable def z5f (v30:Bs):Option (Bs×Int):=
 some (v30,0)
noncomputable def xq (v45:Bool):Option (Unit ⊕ (Bs×Int)):=
 if v45 then (some (.inr ([],3))) else (some (.inl ()))
noncomputable def z19 (k21:Nat) (x24:Bs):Option (Unit ⊕ (Bs×Int)):=
 (jy (x24.length:Int) 1 63).bind fun r33=>if !r33 then (xq true) else ((uh x24 [97,98,99,100,101,102,103,104,105,106,107,108,109,110,111,112,113,114,115,116,117,118,119,120,121,122,65,66,67,68,69,70,71,72,73,74,75,76,77,78,79,80,81,82,83,84,85,86,87,88,89,90,48,49,50,51,52,53,54,55,56,57,45]).bind fun r37=>if !r37 then (xq true) else ((xg x24 [45]).bind fun r41=>xq (decide (r41≠x24))))
noncomputable def z2a (r2:(Bs×Bs×Bool)) (r4:(Int×Bool)):Option (Bs×Int):=
 (jw r2.1).bind fun r25=>if ((r2.2.2 && (decide (r4.1≠80))) && (decide (r4.1≠443))) then (if [58].length+r2.2.1.length≤1000000000 then (if r25.length+([58]++r2.2.1).length≤1000000000 then (z5f (r25++([58]++r2.2.1))) else none) else none) else (z5f r25)
noncomputable def xr (r2:(Bs×Bs×Bool)) (r4:(Int×Bool)) (v17:Bool):Option (Bs×Int):=
 if v17 then (some ([],3)) else ((ky r2.1 [46]).bind fun r19=>if r19.length≤1000000000 then forL (fun (k:Nat) (x:Bs) (s:Unit)=>z19 k x) (fun (s:Unit)=>z2a r2 r4) 0 r19 () else none)
noncomputable def z1f (v1:Bs):Option (Bs×Int):=
 (Zh v1 [58]).bind fun r2=>(z7e r2.2.1 5).bind fun r4=>if decide (255 < (v1.length:Int)) then (xr r2 r4 true) else (if r2.2.2 then (if !r4.2 then (xr r2 r4 true) else ((jy r4.1 1 65535).bind fun r12=>xr r2 r4 (!r12))) else (xr r2 r4 false))
noncomputable def z5d (v12:Bool):Option (Unit ⊕ (Bool)):=
 if v12 then (some (.inr false)) else (some (.inl ()))
noncomputable def y0u (low2:Int) (k3:Nat) (x6:UInt8):Option (Unit ⊕ (Bool)):=
 if decide ((x6.toNat:Int) < low2) then (z5d true) else (z5d (decide (126 < (x6.toNat:Int))))
noncomputable def y0v:Option (Bool):=
 some true
noncomputable def z1b (s1:Bs) (low2:Int):Option (Bool):=
 if s1.length≤1000000000 then forL (fun (k:Nat) (x:UInt8) (s:Unit)=>y0u low2 k x) (fun (s:Unit)=>y0v) 0 s1 () else none
noncomputable def Zw (v19:Bool):Option (Bool):=
 some v19
noncomputable def z3w (s1:Bs):Option (Bool):=
 (jy (s1.length:Int) 1 1000).bind fun r2=>if r2 then ((s1[0]?).bind fun (x6:UInt8)=>if decide ((x6.toNat:Int)=47) then ((z1b s1 33).bind fun r10=>if r10 then ((z02 s1 [63,35]).bind fun r14=>Zw (!r14)) else (Zw false)) else (Zw false)) else (Zw false)
noncomputable def Qs (v12:Bool):Option (Bool):=
 some v12
noncomputable def z3v (s1:Bs):Option (Bool):=
 if decide ((s1.length:Int)≤1000) then ((z1b s1 33).bind fun r4=>if r4 then ((z03 s1 [35]).bind fun r8=>Qs (!r8)) else (Qs false)) else (Qs false)
noncomputable def z2b (v12:Bool):Option (Bool):=
 some v12
noncomputable def z32 (s1:Bs):Option (Bool):=
 if decide ((s1.length:Int)≤2000) then ((z1b s1 32).bind fun r4=>if r4 then ((xg s1 [32]).bind fun r8=>z2b (decide (r8=s1))) else (z2b false)) else (z2b false)
noncomputable def z77 (k3:Nat) (x6:zd):Option (Unit ⊕ (Int)):=
 (Yz x6.Name).bind fun r9=>if !r9 then (some (.inr 5)) else ((z32 x6.Value).bind fun r12=>if !r12 then (some (.inr 3)) else (some (.inl ())))
noncomputable def z78:Option (Int):=
 some 0
noncomputable def z1g (l1:(List zd)):Option (Int):=
 if decide (50 < (l1.length:Int)) then some 2 else (if l1.length≤1000000000 then forL (fun (k:Nat) (x:zd) (s:Unit)=>z77 k x) (fun (s:Unit)=>z78) 0 l1 () else none)
noncomputable def Qz (r1:ya) (v23:Bool):Option (Int):=
 if v23 then some 3 else ((z1g r1.Headers).bind fun r25=>if decide (r25≠0) then some r25 else (if decide (20000 < (r1.Body.length:Int)) then some 2 else some 0))
noncomputable def Qc (r1:ya):Option (Int):=
 (Qd r1.At).bind fun r2=>if !r2 then some 1 else ((Yz r1.Method).bind fun r5=>if !r5 then some 5 else ((z1f r1.Host).bind fun r8=>if decide (r8.2≠0) then some r8.2 else ((z3w r1.Path).bind fun r11=>if !r11 then (Qz r1 true) else ((z3v r1.Query).bind fun r15=>if !r15 then (Qz r1 true) else ((z32 r1.From).bind fun r19=>Qz r1 (!r19))))))
noncomputable def Qb (a1:zx):Option (Int):=
 (jy a1.Status 100 599).bind fun r2=>if !r2 then some 1 else ((z1g a1.Headers).bind fun r5=>if decide (r5≠0) then some r5 else (if decide (20000 < (a1.Body.length:Int)) then some 2 else some 0))
noncomputable def xl (a1:Bs) (b2:Bs):Option (Bool):=
 (jw a1).bind fun r3=>(jw b2).bind fun r5=>some (decide (r3=r5))
noncomputable def z16 (out14:(List Bs)):Option ((List Bs) ⊕ ((List Bs))):=
 some (.inl out14)
noncomputable def Qv (name2:Bs) (k4:Nat) (x7:zd) (l3:(List Bs)):Option ((List Bs) ⊕ ((List Bs))):=
 (xl x7.Name name2).bind fun r10=>if r10 then (if l3.length+1≤1000000000 then (z16 (l3++[x7.Value])) else none) else (z16 l3)
noncomputable def z74 (l3:(List Bs)):Option ((List Bs)):=
 some l3
noncomputable def uo (l1:(List zd)) (name2:Bs):Option ((List Bs)):=
 if l1.length≤1000000000 then forL (fun (k:Nat) (x:zd) (s:(List Bs))=>Qv name2 k x s) (fun (s:(List Bs))=>z74 s) 0 l1 [] else none
noncomputable def z14 (out17:(List Bs)):Option ((List Bs) ⊕ ((List Bs))):=
 some (.inl out17)
noncomputable def Qt (k7:Nat) (x10:Bs) (l6:(List Bs)):Option ((List Bs) ⊕ ((List Bs))):=
 (xg x10 [32]).bind fun r13=>if decide (r13≠[]) then (if l6.length+1≤1000000000 then (z14 (l6++[r13])) else none) else (z14 l6)
noncomputable def z71 (l6:(List Bs)):Option ((List Bs)):=
 some l6
noncomputable def z3x (values1:(List Bs)):Option ((List Bs)):=
 (jx values1 [44]).bind fun r2=>(ky r2 [44]).bind fun r4=>if r4.length≤1000000000 then forL (fun (k:Nat) (x:Bs) (s:(List Bs))=>Qt k x s) (fun (s:(List Bs))=>z71 s) 0 r4 [] else none
noncomputable def Qu (k8:Nat) (x11:Bs) (all6:Bool) (l7:(List Bs)):Option ((Bool×(List Bs)) ⊕ ((List Bs)×Bool×Int)):=
 (Yz x11).bind fun r20=>if !r20 then (some (.inr ([],false,9))) else ((jw x11).bind fun r23=>if l7.length+1≤1000000000 then (some (.inl ((all6 || (decide (x11=[42]))),(l7++[r23])))) else none)
noncomputable def z15 (all6:Bool) (l7:(List Bs)):Option ((List Bs)×Bool×Int):=
 if all6 then (some ([],true,0)) else ((uf l7).bind fun r13=>(Zi r13).bind fun r15=>if decide (10 < (r15.length:Int)) then (some ([],false,2)) else (some (r15,false,0)))
noncomputable def z3y (a1:zx):Option ((List Bs)×Bool×Int):=
 (uo a1.Headers [118,97,114,121]).bind fun r2=>(z3x r2).bind fun r4=>if r4.length≤1000000000 then forL (fun (k:Nat) (x:Bs) (s:Bool×(List Bs))=>Qu k x s.1 s.2) (fun (s:Bool×(List Bs))=>z15 s.1 s.2) 0 r4 (false,[]) else none
noncomputable def Wb (v16:Bool):Option (Bool):=
 some v16
noncomputable def Qe (s1:Bs):Option (Bool):=
 (jy (s1.length:Int) 1 40).bind fun r2=>if r2 then ((sub? s1 0 1).bind fun (l6:Bs)=>(uh l6 [97,98,99,100,101,102,103,104,105,106,107,108,109,110,111,112,113,114,115,116,117,118,119,120,121,122]).bind fun r8=>if r8 then ((uh s1 [97,98,99,100,101,102,103,104,105,106,107,108,109,110,111,112,113,114,115,116,117,118,119,120,121,122,48,49,50,51,52,53,54,55,56,57,45,95]).bind fun r12=>Wb r12) else (Wb false)) else (Wb false)
noncomputable def z2d (v36:Bool):Option (Unit ⊕ (Int)):=
 if v36 then (some (.inr 7)) else (some (.inl ()))
noncomputable def z2c (v1:zy) (k20:Nat) (x23:Bs):Option (Unit ⊕ (Int)):=
 (Qe x23).bind fun r28=>if !r28 then (some (.inr 5)) else (if decide (0 < (k20:Int)) then ((at? v1.Tags ((k20:Int) - 1)).bind fun (x33:Bs)=>z2d (Op.bytesLess x23 x33 || x23 == x33)) else (z2d false))
noncomputable def z2e (v1:zy):Option (Int):=
 (z3y v1.Response).bind fun r24=>some r24.2.2
noncomputable def Zx (v1:zy) (v17:Bool):Option (Int):=
 if v17 then some 1 else (if decide (20 < (v1.Tags.length:Int)) then some 2 else (if v1.Tags.length≤1000000000 then forL (fun (k:Nat) (x:Bs) (s:Unit)=>z2c v1 k x) (fun (s:Unit)=>z2e v1) 0 v1.Tags () else none))
noncomputable def z5g (k6:Nat) (x9:Int):Option (Unit ⊕ (Int)):=
 if decide (x9≠0) then (some (.inr x9)) else (some (.inl ()))
noncomputable def z2f (v1:zy):Option (Int):=
 (Qd v1.At).bind fun r10=>if !r10 then (Zx v1 true) else ((Qd v1.Used).bind fun r14=>Zx v1 (!r14))
noncomputable def Qf (v1:zy):Option (Int):=
 (Qc v1.Request).bind fun r2=>(Qb v1.Response).bind fun r4=>if [r2,r4].length≤1000000000 then forL (fun (k:Nat) (x:Int) (s:Unit)=>z5g k x) (fun (s:Unit)=>z2f v1) 0 [r2,r4] () else none
noncomputable def Wv (k2:Nat) (x5:Int):Option (Unit ⊕ (Int)):=
 if decide (x5≠0) then (some (.inr x5)) else (some (.inl ()))
noncomputable def z8a:Option (Int):=
 some 0
noncomputable def z4c (l1:(List Int)):Option (Int):=
 if l1.length≤1000000000 then forL (fun (k:Nat) (x:Int) (s:Unit)=>Wv k x) (fun (s:Unit)=>z8a) 0 l1 () else none
noncomputable def Zn (h1:zd) (c2:Bs):Option (Bool):=
 (xl h1.Name c2).bind fun r3=>some r3
noncomputable def un (l1:(List zd)) (name2:Bs):Option ((List zd)):=
 (wu l1).bind fun r3=>(z04 r3 (fun (a0:zd)=>Zn a0 name2)).bind fun r5=>some r5
noncomputable def Wa (r2:ya) (l11:(List zd)):Option (ya×Int):=
 if decide (50 < (l11.length:Int)) then (some ((ya.mk 0 [] [] [] [] [] [] []),2)) else (some ((ya.mk r2.At r2.Method r2.Host r2.Path r2.Query r2.From l11 r2.Body),0))
noncomputable def z30 (e1:zy) (r2:ya):Option (ya×Int):=
 (un r2.Headers [105,102,45,110,111,110,101,45,109,97,116,99,104]).bind fun r3=>(uo e1.Response.Headers [101,116,97,103]).bind fun r5=>if decide (0 < (r5.length:Int)) then ((r5[0]?).bind fun (x8:Bs)=>if r3.length+1≤1000000000 then (Wa r2 (r3++([(zd.mk [105,102,45,110,111,110,101,45,109,97,116,99,104] x8)]))) else none) else (Wa r2 r3)
noncomputable def Qa (h1:zd) (c2:Bs):Option (Bool):=
 (xl h1.Name c2).bind fun r3=>some r3
noncomputable def z1d (l1:(List zd)) (name2:Bs) (value3:Bs):Option ((List zd)):=
 (z3l l1 (fun (a0:zd)=>Qa a0 name2)).bind fun r4=>if decide (r4 < 0) then ((wu l1).bind fun r7=>if r7.length+1≤1000000000 then (some (r7++[(zd.mk name2 value3)])) else none) else ((sub? l1 0 r4).bind fun (l10:(List zd))=>(wu l10).bind fun r12=>(at? l1 r4).bind fun (x14:zd)=>if r12.length+1≤1000000000 then ((sub? l1 (wr (r4+1)) (l1.length:Int)).bind fun (l17:(List zd))=>(un l17 name2).bind fun r19=>if (r12++[(zd.mk x14.Name value3)]).length+r19.length≤1000000000 then (some ((r12++[(zd.mk x14.Name value3)])++r19)) else none) else none)
noncomputable def Qw (k11:Nat) (x14:Bs) (l10:(List Bs)):Option ((List Bs) ⊕ ((List Bs)×Int)):=
 (Qe x14).bind fun r22=>if !r22 then (some (.inr ([],5))) else (if l10.length+1≤1000000000 then (some (.inl (l10++[x14]))) else none)
noncomputable def Qx (l10:(List Bs)):Option ((List Bs)×Int):=
 (uf l10).bind fun r15=>(Zi r15).bind fun r17=>if decide (20 < (r17.length:Int)) then (some ([],2)) else (some (r17,0))
noncomputable def z1c (a1:zx):Option ((List Bs)×Int):=
 (uo a1.Headers [99,97,99,104,101,45,116,97,103]).bind fun r2=>(jx r2 [32]).bind fun r4=>(z68 r4 [44] [32]).bind fun r6=>(z01 r6).bind fun r8=>if r8.length≤1000000000 then forL (fun (k:Nat) (x:Bs) (s:(List Bs))=>Qw k x s) (fun (s:(List Bs))=>Qx s) 0 r8 [] else none
noncomputable def z2g (c27:(List zd)):Option ((List zd) ⊕ (zy×Int)):=
 some (.inl c27)
noncomputable def Wc (k15:Nat) (x18:zd) (c14:(List zd)):Option ((List zd) ⊕ (zy×Int)):=
 (xl x18.Name [99,111,110,116,101,110,116,45,108,101,110,103,116,104]).bind fun r21=>if r21 then (z2g c14) else ((z1d c14 x18.Name x18.Value).bind fun r24=>if decide (50 < (r24.length:Int)) then (some (.inr ((zy.mk (ya.mk 0 [] [] [] [] [] [] []) (zx.mk 0 [] []) 0 [] 0),2))) else (z2g r24))
noncomputable def Zy (v1:zy) (v3:Int) (c31:Int) (c32:(List zd)) (c33:Bs) (c34:(List Bs)):Option (zy×Int):=
 (Qf (zy.mk v1.Request (zx.mk c31 c32 c33) v3 c34 v3)).bind fun r35=>if decide (r35≠0) then (some ((zy.mk (ya.mk 0 [] [] [] [] [] [] []) (zx.mk 0 [] []) 0 [] 0),r35)) else (some ((zy.mk v1.Request (zx.mk c31 c32 c33) v3 c34 v3),0))
noncomputable def z79 (v1:zy) (v3:Int) (c14:(List zd)):Option (zy×Int):=
 Zy v1 v3 v1.Response.Status c14 v1.Response.Body v1.Tags
noncomputable def z33 (v1:zy) (v2:zx) (v3:Int):Option (zy×Int):=
 (Qb v2).bind fun r4=>if decide (r4≠0) then (some ((zy.mk (ya.mk 0 [] [] [] [] [] [] []) (zx.mk 0 [] []) 0 [] 0),r4)) else ((Qd v3).bind fun r7=>if !r7 then (some ((zy.mk (ya.mk 0 [] [] [] [] [] [] []) (zx.mk 0 [] []) 0 [] 0),1)) else (if decide (v3 < v1.At) then (some ((zy.mk (ya.mk 0 [] [] [] [] [] [] []) (zx.mk 0 [] []) 0 [] 0),7)) else (if decide (v2.Status=304) then ((wu v1.Response.Headers).bind fun r12=>if v2.Headers.length≤1000000000 then forL (fun (k:Nat) (x:zd) (s:(List zd))=>Wc k x s) (fun (s:(List zd))=>z79 v1 v3 s) 0 v2.Headers r12 else none) else ((z1c v2).bind fun r28=>if decide (r28.2≠0) then (some ((zy.mk (ya.mk 0 [] [] [] [] [] [] []) (zx.mk 0 [] []) 0 [] 0),r28.2)) else (Zy v1 v3 v2.Status v2.Headers v2.Body r28.1)))))
noncomputable def z9a (s2:(List zd)) (k4:Nat) (x7:zd):Option (Unit ⊕ (Bool)):=
 (s2[k4]?).bind fun (x10:zd)=>if (!((x7.Name == x10.Name) && ((x7.Value == x10.Value) && true))) then (some (.inr false)) else (some (.inl ()))
noncomputable def z9b:Option (Bool):=
 some true
noncomputable def z3n (s1:(List zd)) (s2:(List zd)):Option (Bool):=
 if decide ((s1.length:Int)≠(s2.length:Int)) then some false else (if s1.length≤1000000000 then forL (fun (k:Nat) (x:zd) (s:Unit)=>z9a s2 k x) (fun (s:Unit)=>z9b) 0 s1 () else none)
noncomputable def ua (v26:Bool):Option (Bool):=
 some v26
noncomputable def z1e (a1:ya) (b2:ya):Option (Bool):=
 if decide (a1.At=b2.At) then (if decide (a1.Method=b2.Method) then (if decide (a1.Host=b2.Host) then (if decide (a1.Path=b2.Path) then (if decide (a1.Query=b2.Query) then (if decide (a1.From=b2.From) then (if decide (a1.Body=b2.Body) then ((z3n a1.Headers b2.Headers).bind fun r17=>ua r17) else (ua false)) else (ua false)) else (ua false)) else (ua false)) else (ua false)) else (ua false)) else (ua false)
noncomputable def Qy (v11:Bool):Option (Bool):=
 some v11
noncomputable def z7d (a1:zx) (b2:zx):Option (Bool):=
 if decide (a1.Status=b2.Status) then (if decide (a1.Body=b2.Body) then ((z3n a1.Headers b2.Headers).bind fun r7=>Qy r7) else (Qy false)) else (Qy false)
noncomputable def z6l (s2:(List Bs)) (k4:Nat) (x7:Bs):Option (Unit ⊕ (Bool)):=
 (s2[k4]?).bind fun (x10:Bs)=>if decide (x7≠x10) then (some (.inr false)) else (some (.inl ()))
noncomputable def z89:Option (Bool):=
 some true
noncomputable def z3m (s1:(List Bs)) (s2:(List Bs)):Option (Bool):=
 if decide ((s1.length:Int)≠(s2.length:Int)) then some false else (if s1.length≤1000000000 then forL (fun (k:Nat) (x:Bs) (s:Unit)=>z6l s2 k x) (fun (s:Unit)=>z89) 0 s1 () else none)
noncomputable def xp (v21:Bool):Option (Bool):=
 some v21
noncomputable def z3z (a1:zy) (b2:zy):Option (Bool):=
 (z1e a1.Request b2.Request).bind fun r3=>if r3 then ((z7d a1.Response b2.Response).bind fun r7=>if r7 then (if decide (a1.At=b2.At) then (if decide (a1.Used=b2.Used) then ((z3m a1.Tags b2.Tags).bind fun r15=>xp r15) else (xp false)) else (xp false)) else (xp false)) else (xp false)
noncomputable def z4f  : Option ((List Bs)×(List Int)):=
 some ([[109,97,120,45,97,103,101],[115,45,109,97,120,97,103,101],[115,116,97,108,101,45,119,104,105,108,101,45,114,101,118,97,108,105,100,97,116,101],[115,116,97,108,101,45,105,102,45,101,114,114,111,114],[109,97,120,45,115,116,97,108,101],[109,105,110,45,102,114,101,115,104]],([6,7,8,9,10,11]:List Int))
noncomputable def z2t (r2:(Int×Bool)) (v9:Bool):Option (Int×Bool):=
 some (r2.1,v9)
noncomputable def z4e (s1:Bs):Option (Int×Bool):=
 (z3u s1).bind fun r2=>if r2.2 then ((z09 r2.1 0 100000000).bind fun r6=>z2t r2 (!r6)) else (z2t r2 false)
noncomputable def z7h  : Option ((List Bs)×(List Int)):=
 some ([[110,111,45,115,116,111,114,101],[110,111,45,99,97,99,104,101],[112,114,105,118,97,116,101],[112,117,98,108,105,99],[109,117,115,116,45,114,101,118,97,108,105,100,97,116,101],[111,110,108,121,45,105,102,45,99,97,99,104,101,100]],([0,1,2,3,4,5]:List Int))
noncomputable def z2r (r3:(Bs×Bs×Bool)) (c41:Bool) (c42:Bool) (c43:Bool) (c44:Bool) (c45:Bool) (c46:Bool) (c47:Int) (c48:Int) (c49:Int) (c50:Int) (c51:Int) (c52:Int):Option (Bool×yn):=
 some (r3.2.2,(yn.mk c41 c42 c43 c44 c45 c46 c47 c48 c49 c50 c51 c52))
noncomputable def z2q (s1:yn) (r3:(Bs×Bs×Bool)) (r5:(Int×Bool)) (r22:((List Bs)×(List Int))) (r24:(Int)) (v34:Bool):Option (Bool×yn):=
 if v34 then ((at? r22.2 r24).bind fun (x36:Int)=>if xw x36=true then ((some (z6g s1 x36 r5.1)).bind fun (c39:yn)=>z2r r3 c39.NoStore c39.NoCache c39.Private c39.Public c39.Must c39.Only c39.MaxAge c39.Shared c39.Stale c39.OnError c39.MaxStale c39.MinFresh) else none) else (z2r r3 s1.NoStore s1.NoCache s1.Private s1.Public s1.Must s1.Only s1.MaxAge s1.Shared s1.Stale s1.OnError s1.MaxStale s1.MinFresh)
noncomputable def z1k (s1:yn) (v2:Bs):Option (Bool×yn):=
 (Zh v2 [61]).bind fun r3=>(z4e r3.2.1).bind fun r5=>(xi r3.1).bind fun r7=>if ((!r7) || (r3.2.2 && (!r5.2))) then (some (false,s1)) else ((jw r3.1).bind fun r10=>(z7h).bind fun r12=>(Yt r12.1 r10).bind fun r14=>if decide (0≤r14) then ((at? r12.2 r14).bind fun (x17:Int)=>if z8g x17=true then ((some (z81 s1 x17 true)).bind fun (c20:yn)=>some (!r3.2.2,c20)) else none) else ((z4f).bind fun r22=>(Yt r22.1 r10).bind fun r24=>if decide (r24 < 0) then (some (true,s1)) else ((at? r22.2 r24).bind fun (x27:Int)=>if xw x27=true then (if decide ((Zu s1 x27)=(-1)) then (z2q s1 r3 r5 r22 r24 true) else (if xw x27=true then (z2q s1 r3 r5 r22 r24 (decide (r5.1 < (Zu s1 x27)))) else none)) else none)))
noncomputable def z0e (k36:Nat) (x39:Bs) (c24:Bool) (c25:Bool) (c26:Int) (c27:Int) (c28:Bool) (c29:Bool) (c30:Bool) (c31:Bool) (c32:Int) (c33:Int) (c34:Int) (c35:Int):Option ((Bool×Bool×Int×Int×Bool×Bool×Bool×Bool×Int×Int×Int×Int) ⊕ (yn×Int)):=
 (z1k (yn.mk c24 c25 c28 c29 c30 c31 c32 c33 c34 c35 c26 c27) x39).bind fun r42=>if !r42.1 then (some (.inr ((yn.mk false false false false false false 0 0 0 0 0 0),9))) else (some (.inl (r42.2.NoStore,r42.2.NoCache,r42.2.MaxStale,r42.2.MinFresh,r42.2.Private,r42.2.Public,r42.2.Must,r42.2.Only,r42.2.MaxAge,r42.2.Shared,r42.2.Stale,r42.2.OnError)))
noncomputable def y07 (c24:Bool) (c25:Bool) (c26:Int) (c27:Int) (c28:Bool) (c29:Bool) (c30:Bool) (c31:Bool) (c32:Int) (c33:Int) (c34:Int) (c35:Int):Option (yn×Int):=
 some ((yn.mk c24 c25 c28 c29 c30 c31 c32 c33 c34 c35 c26 c27),0)
noncomputable def y06 (k16:Nat) (x19:Int) (c4:Bool) (c5:Bool) (c6:Int) (c7:Int) (c8:Bool) (c9:Bool) (c10:Bool) (c11:Bool) (c12:Int) (c13:Int) (c14:Int) (c15:Int):Option ((Bool×Bool×Int×Int×Bool×Bool×Bool×Bool×Int×Int×Int×Int) ⊕ (yn×Int)):=
 if xw x19=true then ((some (z6g (yn.mk c4 c5 c8 c9 c10 c11 c12 c13 c14 c15 c6 c7) x19 (-1))).bind fun (c48:yn)=>some (.inl (c48.NoStore,c48.NoCache,c48.MaxStale,c48.MinFresh,c48.Private,c48.Public,c48.Must,c48.Only,c48.MaxAge,c48.Shared,c48.Stale,c48.OnError))) else none
noncomputable def z5j (l1:(List zd)) (c4:Bool) (c5:Bool) (c6:Int) (c7:Int) (c8:Bool) (c9:Bool) (c10:Bool) (c11:Bool) (c12:Int) (c13:Int) (c14:Int) (c15:Int):Option (yn×Int):=
 (kj l1 [99,97,99,104,101,45,99,111,110,116,114,111,108]).bind fun r20=>(Zk r20).bind fun r22=>if r22.length≤1000000000 then forL (fun (k:Nat) (x:Bs) (s:Bool×Bool×Int×Int×Bool×Bool×Bool×Bool×Int×Int×Int×Int)=>z0e k x s.1 s.2.1 s.2.2.1 s.2.2.2.1 s.2.2.2.2.1 s.2.2.2.2.2.1 s.2.2.2.2.2.2.1 s.2.2.2.2.2.2.2.1 s.2.2.2.2.2.2.2.2.1 s.2.2.2.2.2.2.2.2.2.1 s.2.2.2.2.2.2.2.2.2.2.1 s.2.2.2.2.2.2.2.2.2.2.2) (fun (s:Bool×Bool×Int×Int×Bool×Bool×Bool×Bool×Int×Int×Int×Int)=>y07 s.1 s.2.1 s.2.2.1 s.2.2.2.1 s.2.2.2.2.1 s.2.2.2.2.2.1 s.2.2.2.2.2.2.1 s.2.2.2.2.2.2.2.1 s.2.2.2.2.2.2.2.2.1 s.2.2.2.2.2.2.2.2.2.1 s.2.2.2.2.2.2.2.2.2.2.1 s.2.2.2.2.2.2.2.2.2.2.2) 0 r22 (c4,c5,c6,c7,c8,c9,c10,c11,c12,c13,c14,c15) else none
noncomputable def z1l (l1:(List zd)):Option (yn×Int):=
 (z4f).bind fun r2=>if r2.2.length≤1000000000 then forL (fun (k:Nat) (x:Int) (s:Bool×Bool×Int×Int×Bool×Bool×Bool×Bool×Int×Int×Int×Int)=>y06 k x s.1 s.2.1 s.2.2.1 s.2.2.2.1 s.2.2.2.2.1 s.2.2.2.2.2.1 s.2.2.2.2.2.2.1 s.2.2.2.2.2.2.2.1 s.2.2.2.2.2.2.2.2.1 s.2.2.2.2.2.2.2.2.2.1 s.2.2.2.2.2.2.2.2.2.2.1 s.2.2.2.2.2.2.2.2.2.2.2) (fun (s:Bool×Bool×Int×Int×Bool×Bool×Bool×Bool×Int×Int×Int×Int)=>z5j l1 s.1 s.2.1 s.2.2.1 s.2.2.2.1 s.2.2.2.2.1 s.2.2.2.2.2.1 s.2.2.2.2.2.2.1 s.2.2.2.2.2.2.2.1 s.2.2.2.2.2.2.2.2.1 s.2.2.2.2.2.2.2.2.2.1 s.2.2.2.2.2.2.2.2.2.2.1 s.2.2.2.2.2.2.2.2.2.2.2) 0 r2.2 (false,false,0,0,false,false,false,false,0,0,0,0) else none
noncomputable def z4g (c1:yn):Option (Int):=
 if c1.NoCache then some 0 else (if decide (c1.Shared≠(-1)) then (some (wr (c1.Shared * 1000))) else (if decide (c1.MaxAge≠(-1)) then (some (wr (c1.MaxAge * 1000))) else some 0))
noncomputable def z7j (a1:zx):Option (Int×Int):=
 (ug a1).bind fun r2=>if decide (r2≠0) then (some (0,r2)) else ((z1l a1.Headers).bind fun r5=>if decide (r5.2≠0) then (some (0,r5.2)) else ((Zq a1).bind fun r8=>if decide (r8.2.2≠0) then (some (0,r8.2.2)) else ((z4g r5.1).bind fun r11=>some (r11,0))))
noncomputable def z1j  : Option (Bool):=
 (z7j (zx.mk 200 ([(zd.mk [99,97,99,104,101,45,99,111,110,116,114,111,108] [109,97,120,45,97,103,101,61,50])]) [])).bind fun r1=>some ((decide (r1.2=0)) && (decide (r1.1=2000)))
noncomputable def xu (v82:Bool):Option (Bool):=
 some v82
noncomputable def Ww (r22:(ya×Int)) (r24:(zy×Int)) (v37:Int) (c38:Int) (c39:Bs) (c40:Bs) (c41:Bs) (c42:Bs) (c43:Bs) (c44:(List zd)) (c45:Bs) (v49:Int) (c50:Int) (c51:Bs) (c52:Bs) (c53:Bs) (c54:Bs) (c55:Bs) (c56:(List zd)) (c57:Bs) (c58:Int) (c59:(List zd)) (c60:Bs) (c61:Int) (c62:(List Bs)) (c63:Int):Option (Bool):=
 if decide (r22.2=v37) then ((z1e r22.1 (ya.mk c38 c39 c40 c41 c42 c43 c44 c45)).bind fun r66=>if r66 then (if decide (r24.2=v49) then ((z3z r24.1 (zy.mk (ya.mk c50 c51 c52 c53 c54 c55 c56 c57) (zx.mk c58 c59 c60) c61 c62 c63)).bind fun r72=>if r72 then ((z1j ).bind fun r76=>xu r76) else (xu false)) else (xu false)) else (xu false)) else (xu false)
noncomputable def Wx (r2:(zy×zn)) (r6:(zx×zn)) (v15:Int) (c21:Int) (r22:(ya×Int)) (r24:(zy×Int)) (r32:(Int)) (v37:Int) (c38:Int) (c39:Bs) (c40:Bs) (c41:Bs) (c42:Bs) (c43:Bs) (c44:(List zd)) (c45:Bs):Option (Bool):=
 if decide (r32=0) then ((z33 r2.1 (zx.mk c21 r6.1.Headers r6.1.Body) v15).bind fun r47=>Ww r22 r24 v37 c38 c39 c40 c41 c42 c43 c44 c45 r47.2 r47.1.Request.At r47.1.Request.Method r47.1.Request.Host r47.1.Request.Path r47.1.Request.Query r47.1.Request.From r47.1.Request.Headers r47.1.Request.Body r47.1.Response.Status r47.1.Response.Headers r47.1.Response.Body r47.1.At r47.1.Tags r47.1.Used) else (Ww r22 r24 v37 c38 c39 c40 c41 c42 c43 c44 c45 r32 0 [] [] [] [] [] ([]:(List zd)) [] 0 ([]:(List zd)) [] 0 ([]:(List Bs)) 0)
noncomputable def Wy (r2:(zy×zn)) (r4:(ya×zn)) (r6:(zx×zn)) (v15:Int) (c21:Int):Option (Bool):=
 (Qj r2.1 r4.1).bind fun r22=>(ur r2.1 (zx.mk c21 r6.1.Headers r6.1.Body) v15).bind fun r24=>(Qf r2.1).bind fun r26=>(Qc r4.1).bind fun r28=>(z4c [r26,r28]).bind fun r30=>(Qf r2.1).bind fun r32=>if decide (r30=0) then ((z30 r2.1 r4.1).bind fun r35=>Wx r2 r6 v15 c21 r22 r24 r32 r35.2 r35.1.At r35.1.Method r35.1.Host r35.1.Path r35.1.Query r35.1.From r35.1.Headers r35.1.Body) else (Wx r2 r6 v15 c21 r22 r24 r32 r30 0 [] [] [] [] [] ([]:(List zd)) [])
noncomputable def Wz (r2:(zy×zn)) (r4:(ya×zn)) (r6:(zx×zn)) (v15:Int) (c16:(List Int)) (c17:Int):Option (Bool):=
 (wv (zn.mk c16 c17) 2).bind fun r18=>if r18.1 then (Wy r2 r4 r6 v15 304) else (Wy r2 r4 r6 v15 r6.1.Status)
noncomputable def z7f (v1:(List Int)):Option (Bool):=
 (z38 (zn.mk v1 0)).bind fun r2=>(z1i r2.2 0).bind fun r4=>(z1h r4.2).bind fun r6=>(z35 r6.2 r2.1.At).bind fun r8=>(wv r8.2 15).bind fun r10=>if r10.1 then ((Zp r10.2 0 1000).bind fun r13=>Wz r2 r4 r6 r13.1 r13.2.L r13.2.at_) else (Wz r2 r4 r6 r8.1 r10.2.L r10.2.at_)
end Go.Proofs.YtkldmhhbbceaoabGreatDoor
