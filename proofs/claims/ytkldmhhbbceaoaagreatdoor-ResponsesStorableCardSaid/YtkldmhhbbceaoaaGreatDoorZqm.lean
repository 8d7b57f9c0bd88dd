/- Plain models of functions. Printed by a program. -/
import Derived.Test.YtkldmhhbbceaoaaGreatDoorMc
import Derived.Test.YtkldmhhbbceaoaaGreatDoorFld
namespace Go.Proofs.YtkldmhhbbceaoaaGreatDoor
set_option linter.unusedVariables false
set_option maxRecDepth 20000
structure zh where
 L:(List Int)
 at_:Int
structure zm where
 Name:Bs
 Value:Bs
structure yv where
 At:Int
 Method:Bs
 Host:Bs
 Path:Bs
 Query:Bs
 From:Bs
 Headers:(List zm)
 Body:Bs
structure ya where
 Status:Int
 Headers:(List zm)
 Body:Bs
structure zv where
 NoStore:Bool
 NoCache:Bool
 Private:Bool
 Public:Bool
 Must:Bool
 Only:Bool
 MaxAge:Int
 Shared:Int
 Stale:Int
 OnError:Int
 MaxStale:Int
 MinFresh:Int
def z4g (x:Int):Bool:=decide (x=0) || decide (x=1) || decide (x=2) || decide (x=3) || decide (x=4) || decide (x=5)
def jd (c:zv) (x:Int) (y:Bool):zv:=if x=0 then zv.mk y c.NoCache c.Private c.Public c.Must c.Only c.MaxAge c.Shared c.Stale c.OnError c.MaxStale c.MinFresh else if x=1 then zv.mk c.NoStore y c.Private c.Public c.Must c.Only c.MaxAge c.Shared c.Stale c.OnError c.MaxStale c.MinFresh else if x=2 then zv.mk c.NoStore c.NoCache y c.Public c.Must c.Only c.MaxAge c.Shared c.Stale c.OnError c.MaxStale c.MinFresh else if x=3 then zv.mk c.NoStore c.NoCache c.Private y c.Must c.Only c.MaxAge c.Shared c.Stale c.OnError c.MaxStale c.MinFresh else if x=4 then zv.mk c.NoStore c.NoCache c.Private c.Public y c.Only c.MaxAge c.Shared c.Stale c.OnError c.MaxStale c.MinFresh else if x=5 then zv.mk c.NoStore c.NoCache c.Private c.Public c.Must y c.MaxAge c.Shared c.Stale c.OnError c.MaxStale c.MinFresh else c
def jy (x:Int):Bool:=decide (x=6) || decide (x=7) || decide (x=8) || decide (x=9) || decide (x=10) || decide (x=11)
def wg (c:zv) (x:Int):Int:=if x=6 then c.MaxAge else if x=7 then c.Shared else if x=8 then c.Stale else if x=9 then c.OnError else if x=10 then c.MaxStale else if x=11 then c.MinFresh else 0
def ke (c:zv) (x:Int) (y:Int):zv:=if x=6 then zv.mk c.NoStore c.NoCache c.Private c.Public c.Must c.Only y c.Shared c.Stale c.OnError c.MaxStale c.MinFresh else if x=7 then zv.mk c.NoStore c.NoCache c.Private c.Public c.Must c.Only c.MaxAge y c.Stale c.OnError c.MaxStale c.MinFresh else if x=8 then zv.mk c.NoStore c.NoCache c.Private c.Public c.Must c.Only c.MaxAge c.Shared y c.OnError c.MaxStale c.MinFresh else if x=9 then zv.mk c.NoStore c.NoCache c.Private c.Public c.Must c.Only c.MaxAge c.Shared c.Stale y c.MaxStale c.MinFresh else if x=10 then zv.mk c.NoStore c.NoCache c.Private c.Public c.Must c.Only c.MaxAge c.Shared c.Stale c.OnError y c.MinFresh else if x=11 then zv.mk c.NoStore c.NoCache c.Private c.Public c.Must c.Only c.MaxAge c.Shared c.Stale c.OnError c.MaxStale y else c
noncomputable def z1u (x6:Int):Option (Int):=
 some x6
noncomputable def Yh (x1:Int) (n2:Int):Option (Int):=
 if decide (n2 < 1) then some 0 else (if n2≠0 then (if decide ((Int.tmod x1 n2) < 0) then (z1u (wr ((Int.tmod x1 n2)+n2))) else (z1u (Int.tmod x1 n2))) else none)
noncomputable def jv (s1:zh) (n2:Int):Option (Int×zh):=
 if decide ((s1.L.length:Int)=0) then ((Yh (wr ((wr (s1.at_+1)) * 7919)) n2).bind fun r4=>some (r4,(zh.mk s1.L (wr (s1.at_+1))))) else (if (s1.L.length:Int)≠0 then (if ((0:Int)≤(wr ((wr (s1.at_+1)) - 1))∧(wr ((wr (s1.at_+1)) - 1))≤9223372036854775807)∧(0:Int) < (s1.L.length:Int) then ((at? s1.L (Int.tmod (wr ((wr (s1.at_+1)) - 1)) (s1.L.length:Int))).bind fun (x8:Int)=>(Yh x8 1073741824).bind fun r10=>(Yh (wr (r10+(wr (((wr ((wr (s1.at_+1)) - 1)) / (s1.L.length:Int)) * (wr (7919+(Int.tmod (wr ((wr (s1.at_+1)) - 1)) (s1.L.length:Int)))))))) n2).bind fun r12=>some (r12,(zh.mk s1.L (wr (s1.at_+1))))) else none) else none)
noncomputable def qf (s1:zh) (l2:(List Bs)):Option (Bs×zh):=
 (jv s1 (l2.length:Int)).bind fun r3=>(at? l2 r3.1).bind fun (x5:Bs)=>some (x5,r3.2)
noncomputable def qz (s1:zh) (n2:Int):Option (Bool×zh):=
 (jv s1 n2).bind fun r3=>some (decide (r3.1=0),r3.2)
noncomputable def kz (s1:zh) (low2:Int) (high3:Int):Option (Int×zh):=
 if decide (high3 < low2) then (some (low2,s1)) else ((jv s1 (wr ((wr (high3 - low2))+1))).bind fun r5=>some (wr (low2+r5.1),r5.2))
noncomputable def z4d (l4:(List Bs)) (k8:Nat) (c5:(List Int)) (c6:Int) (l7:(List Bs)):Option (((List Int)×Int×(List Bs)) ⊕ (Bs×zh)):=
 (qf (zh.mk c5 c6) l4).bind fun r14=>if l7.length+1≤1000000000 then (some (.inl (r14.2.L,r14.2.at_,(l7++[r14.1])))) else none
noncomputable def z4e (between3:Bs) (c5:(List Int)) (c6:Int) (l7:(List Bs)):Option (Bs×zh):=
 (kh l7 between3).bind fun r11=>some (r11,(zh.mk c5 c6))
noncomputable def ju (s1:zh) (many2:Int) (between3:Bs) (l4:(List Bs)):Option (Bs×zh):=
 if many2≤1000000000 then rng (fun (k:Nat) (s:(List Int)×Int×(List Bs))=>z4d l4 k s.1 s.2.1 s.2.2) (fun (s:(List Int)×Int×(List Bs))=>z4e between3 s.1 s.2.1 s.2.2) many2.toNat 0 (s1.L,s1.at_,[]) else none
noncomputable def z1t (t11:Bs) (c12:(List Int)) (c13:Int):Option (Bs×zh):=
 some (t11,(zh.mk c12 c13))
noncomputable def z3e (s1:zh):Option (Bs×zh):=
 (kz s1 1 2).bind fun r2=>(ju r2.2 r2.1 [44,32] ([[109,97,120,45,97,103,101,61,51,48],[109,97,120,45,97,103,101,61,48],[109,105,110,45,102,114,101,115,104,61,50,48],[109,97,120,45,115,116,97,108,101,61,49,53],[110,111,45,99,97,99,104,101],[111,110,108,121,45,105,102,45,99,97,99,104,101,100],[109,97,120,45,115,116,97,108,101,61,49,48,48,48],[110,111,45,115,116,111,114,101]])).bind fun r4=>(qz r4.2 20).bind fun r6=>if r6.1 then ((qf r6.2 ([[109,97,120,45,115,116,97,108,101],[109,105,110,45,102,114,101,115,104,61,120]])).bind fun r9=>z1t r9.1 r9.2.L r9.2.at_) else (z1t r4.1 r6.2.L r6.2.at_)
noncomputable def z3b (s1:zh) (t2:Bs) (v3:Bs):Option (Bs×zh):=
 if ((decide (t2=[])) || (decide (v3=[]))) then (some (v3,s1)) else ((jv s1 (t2.length:Int)).bind fun r5=>(jv r5.2 (v3.length:Int)).bind fun r7=>(at? v3 r7.1).bind fun (x9:UInt8)=>(jv r7.2 3).bind fun r11=>if decide (r11.1=0) then ((sub? t2 0 r5.1).bind fun (l14:Bs)=>if l14.length+(encL (IntKind.wrap .i32 (x9.toNat:Int))).length≤1000000000 then ((sub? t2 (wr (r5.1+1)) (t2.length:Int)).bind fun (l17:Bs)=>if (l14++(encL (IntKind.wrap .i32 (x9.toNat:Int)))).length+l17.length≤1000000000 then (some (((l14++(encL (IntKind.wrap .i32 (x9.toNat:Int))))++l17),r11.2)) else none) else none) else (if decide (r11.1=1) then ((sub? t2 0 r5.1).bind fun (l21:Bs)=>if l21.length+(encL (IntKind.wrap .i32 (x9.toNat:Int))).length≤1000000000 then ((sub? t2 r5.1 (t2.length:Int)).bind fun (l24:Bs)=>if (l21++(encL (IntKind.wrap .i32 (x9.toNat:Int)))).length+l24.length≤1000000000 then (some (((l21++(encL (IntKind.wrap .i32 (x9.toNat:Int))))++l24),r11.2)) else none) else none) else ((sub? t2 0 r5.1).bind fun (l27:Bs)=>(sub? t2 (wr (r5.1+1)) (t2.length:Int)).bind fun (l29:Bs)=>if l27.length+l29.length≤1000000000 then (some ((l27++l29),r11.2)) else none)))
noncomputable def z1r (p23:Bs) (c24:(List Int)) (c25:Int):Option (Bs×zh):=
 some (p23,(zh.mk c24 c25))
noncomputable def Qb (p15:Bs) (c16:(List Int)) (c17:Int):Option (Bs×zh):=
 (qz (zh.mk c16 c17) 12).bind fun r18=>if r18.1 then ((z3b r18.2 p15 [47,46,37,50,102,65]).bind fun r21=>z1r r21.1 r21.2.L r21.2.at_) else (z1r p15 r18.2.L r18.2.at_)
noncomputable def z0u (s1:zh):Option (Bs×zh):=
 (kz s1 0 4).bind fun r2=>(ju r2.2 r2.1 [47] ([[97],[98],[37,52,49],[37,50,102],[37,55,101],[46],[46,46],[],[120,59,121],[99,37,50,48,100],[37,99,51,37,97,52],[65],[97,46,98],[126]])).bind fun r4=>if [47].length+r4.1.length≤1000000000 then ((qz r4.2 12).bind fun r7=>if r7.1 then ((js [37,50,48] 340).bind fun r10=>if [47].length+r10.length≤1000000000 then ((qf r7.2 ([[],[97],[47,97,63,98],[47,97,35],[47,37],[47,37,52],[47,37,122,122],[47,127],[47,97,32,98],([47]++r10)])).bind fun r13=>Qb r13.1 r13.2.L r13.2.at_) else none) else (Qb ([47]++r4.1) r7.2.L r7.2.at_)) else none
noncomputable def z1q (q13:Bs) (c14:(List Int)) (c15:Int):Option (Bs×zh):=
 some (q13,(zh.mk c14 c15))
noncomputable def z0t (s1:zh):Option (Bs×zh):=
 (kz s1 0 4).bind fun r2=>(ju r2.2 r2.1 [38] ([[97,61,49],[98,61,50],[97,61],[61,120],[61],[99],[],[97,61,37,52,49,43,37,50,66],[100,61,120,37,50,54,121],[98,61,37,99,51],[97,61,49,61,50],[97,63,98,61,47]])).bind fun r4=>(qz r4.2 12).bind fun r6=>if r6.1 then ((ju r6.2 101 [38] ([[120]])).bind fun r9=>(qf r9.2 ([[35],[97,37],[37,103,49,61,50],[97,32,98],[128],r9.1])).bind fun r11=>z1q r11.1 r11.2.L r11.2.at_) else (z1q r4.1 r6.2.L r6.2.at_)
noncomputable def Qm (v2:Int) (r3:(Bs×zh)) (r5:(Bs×zh)) (l46:(List zm)) (c54:(List Int)) (c55:Int) (c56:Bs) (c57:Bs):Option (yv×zh):=
 some ((yv.mk v2 r3.1 r5.1 c56 c57 [] l46 []),(zh.mk c54 c55))
noncomputable def Qn (v2:Int) (r3:(Bs×zh)) (r5:(Bs×zh)) (r7:(Bs×zh)) (r9:(Bs×zh)) (c44:(List Int)) (c45:Int) (l46:(List zm)):Option (yv×zh):=
 (qz (zh.mk c44 c45) 40).bind fun r47=>if r47.1 then ((z0u r47.2).bind fun r50=>(z0t r50.2).bind fun r52=>Qm v2 r3 r5 l46 r52.2.L r52.2.at_ r50.1 r52.1) else (Qm v2 r3 r5 l46 r47.2.L r47.2.at_ r7.1 r9.1)
noncomputable def Qo (v2:Int) (r3:(Bs×zh)) (r5:(Bs×zh)) (r7:(Bs×zh)) (r9:(Bs×zh)) (c35:(List Int)) (c36:Int) (l37:(List zm)):Option (yv×zh):=
 (qz (zh.mk c35 c36) 8).bind fun r38=>if r38.1 then ((qf r38.2 ([[34,118,49,34],[87,47,34,118,50,34,44,32,34,118,49,34],[42],[118,49]])).bind fun r41=>if l37.length+1≤1000000000 then (Qn v2 r3 r5 r7 r9 r41.2.L r41.2.at_ (l37++([(zm.mk [105,102,45,110,111,110,101,45,109,97,116,99,104] r41.1)]))) else none) else (Qn v2 r3 r5 r7 r9 r38.2.L r38.2.at_ l37)
noncomputable def Qp (v2:Int) (r3:(Bs×zh)) (r5:(Bs×zh)) (r7:(Bs×zh)) (r9:(Bs×zh)) (c28:(List Int)) (c29:Int) (l30:(List zm)):Option (yv×zh):=
 (qz (zh.mk c28 c29) 12).bind fun r31=>if r31.1 then (if l30.length+1≤1000000000 then (Qo v2 r3 r5 r7 r9 r31.2.L r31.2.at_ (l30++([(zm.mk [97,117,116,104,111,114,105,122,97,116,105,111,110] [66,101,97,114,101,114,32,120])]))) else none) else (Qo v2 r3 r5 r7 r9 r31.2.L r31.2.at_ l30)
noncomputable def Qq (v2:Int) (r3:(Bs×zh)) (r5:(Bs×zh)) (r7:(Bs×zh)) (r9:(Bs×zh)) (c19:(List Int)) (c20:Int) (l21:(List zm)):Option (yv×zh):=
 (qz (zh.mk c19 c20) 4).bind fun r22=>if r22.1 then ((z3e r22.2).bind fun r25=>if l21.length+1≤1000000000 then (Qp v2 r3 r5 r7 r9 r25.2.L r25.2.at_ (l21++([(zm.mk [99,97,99,104,101,45,99,111,110,116,114,111,108] r25.1)]))) else none) else (Qp v2 r3 r5 r7 r9 r22.2.L r22.2.at_ l21)
noncomputable def z3d (s1:zh) (v2:Int):Option (yv×zh):=
 (qf s1 ([[71,69,84],[71,69,84],[71,69,84],[71,69,84],[72,69,65,68],[80,79,83,84]])).bind fun r3=>(qf r3.2 ([[97,46,98],[97,46,98],[65,46,66,58,56,48],[99,46,100]])).bind fun r5=>(qf r5.2 ([[47,120],[47,120],[47,120,47,46,47],[47,37,55,56],[47,121]])).bind fun r7=>(qf r7.2 ([[],[],[98,61,50,38,97,61,49],[97,61,49,38,98,61,50]])).bind fun r9=>(qz r9.2 3).bind fun r11=>if r11.1 then ((qf r11.2 ([[97,99,99,101,112,116,45,108,97,110,103,117,97,103,101],[65,99,99,101,112,116,45,76,97,110,103,117,97,103,101]])).bind fun r14=>(qf r14.2 ([[100,101],[101,110]])).bind fun r16=>if ([]:List zm).length+1≤1000000000 then (Qq v2 r3 r5 r7 r9 r16.2.L r16.2.at_ (([]:List zm)++[(zm.mk r14.1 r16.1)])) else none) else (Qq v2 r3 r5 r7 r9 r11.2.L r11.2.at_ ([]:List zm))
noncomputable def ua (s1:zh) (l2:(List Int)):Option (Int×zh):=
 (jv s1 (l2.length:Int)).bind fun r3=>(at? l2 r3.1).bind fun (x5:Int)=>some (x5,r3.2)
noncomputable def z1s (t19:Bs) (c20:(List Int)) (c21:Int):Option (Bs×zh):=
 some (t19,(zh.mk c20 c21))
noncomputable def Qe (t11:Bs) (c12:(List Int)) (c13:Int):Option (Bs×zh):=
 (qz (zh.mk c12 c13) 20).bind fun r14=>if r14.1 then ((qf r14.2 ([[109,97,120,45,97,103,101],[110,111,45,99,97,99,104,101,61,49],[109,97,120,45,97,103,101,61,45,49],[109,97,120,45,97,103,101,61,48,49],[109,97,120,45,97,103,101,61,49,48,48,48,48,48,48,48,49],[61,49],[97,32,98],[109,97,120,45,97,103,101,61,54,48,32,44,32,44,32,110,111,45,99,97,99,104,101]])).bind fun r17=>z1s r17.1 r17.2.L r17.2.at_) else (z1s t11 r14.2.L r14.2.at_)
noncomputable def z3a (s1:zh):Option (Bs×zh):=
 (kz s1 0 3).bind fun r2=>(ju r2.2 r2.1 [44,32] ([[109,97,120,45,97,103,101,61,54,48],[109,97,120,45,97,103,101,61,54,48],[109,97,120,45,97,103,101,61,48],[109,97,120,45,97,103,101,61,49,48],[115,45,109,97,120,97,103,101,61,51,48],[110,111,45,99,97,99,104,101],[112,117,98,108,105,99],[109,117,115,116,45,114,101,118,97,108,105,100,97,116,101],[115,116,97,108,101,45,119,104,105,108,101,45,114,101,118,97,108,105,100,97,116,101,61,50,48],[115,116,97,108,101,45,105,102,45,101,114,114,111,114,61,49,48,48],[120,61,49],[121],[77,97,120,45,65,103,101,61,57,48]])).bind fun r4=>(qz r4.2 10).bind fun r6=>if r6.1 then ((ju r6.2 2 [44] ([[110,111,45,115,116,111,114,101],[112,114,105,118,97,116,101],[109,97,120,45,97,103,101,61,54,48],[111,110,108,121,45,105,102,45,99,97,99,104,101,100],[105,109,109,117,116,97,98,108,101]])).bind fun r9=>Qe r9.1 r9.2.L r9.2.at_) else (Qe r4.1 r6.2.L r6.2.at_)
noncomputable def ub (name1:Bs) (value2:Bs) (c3:ya):Option (ya):=
 if c3.Headers.length+1≤1000000000 then (some (ya.mk c3.Status (c3.Headers++[(zm.mk name1 value2)]) c3.Body)) else none
noncomputable def Yg (s1:zh) (low2:Int) (high3:Int):Option (Int×zh):=
 (qz s1 12).bind fun r4=>if r4.1 then ((ua r4.2 [wr (low2 - 1),wr (high3+1),low2,high3,(-1099511627776),1099511627776]).bind fun r7=>some (r7.1,r7.2)) else ((kz r4.2 low2 high3).bind fun r9=>some (r9.1,r9.2))
noncomputable def Qf (l85:(List zm)) (c87:Bs) (c93:(List Int)) (c94:Int) (c95:Int):Option (ya×zh):=
 some ((ya.mk c95 l85 c87),(zh.mk c93 c94))
noncomputable def Qg (c83:(List Int)) (c84:Int) (l85:(List zm)) (c86:Int) (c87:Bs):Option (ya×zh):=
 (qz (zh.mk c83 c84) 40).bind fun r88=>if r88.1 then ((Yg r88.2 100 599).bind fun r91=>Qf l85 c87 r91.2.L r91.2.at_ r91.1) else (Qf l85 c87 r88.2.L r88.2.at_ c86)
noncomputable def Qh (c67:(List Int)) (c68:Int) (l69:(List zm)) (c70:Int) (c71:Bs):Option (ya×zh):=
 (qz (zh.mk c67 c68) 30).bind fun r72=>if r72.1 then ((qf r72.2 ([[118,97,114,121],[99,97,99,104,101,45,116,97,103]])).bind fun r75=>(ju r75.2 12 [44] ([[104,49],[104,50],[104,51],[104,52],[104,53],[104,54],[104,55],[104,56],[104,57],[104,97],[104,98],[104,99]])).bind fun r77=>(qf r77.2 ([[97,32,98],[65],[],r77.1])).bind fun r79=>(ub r75.1 r79.1 (ya.mk c70 l69 c71)).bind fun r81=>Qg r79.2.L r79.2.at_ r81.Headers r81.Status r81.Body) else (Qg r72.2.L r72.2.at_ l69 c70 c71)
noncomputable def Qi (c55:(List Int)) (c56:Int) (l57:(List zm)) (c58:Int) (c59:Bs):Option (ya×zh):=
 (qz (zh.mk c55 c56) 6).bind fun r60=>if r60.1 then ((qf r60.2 ([[53],[53,48],[120],[45,49],[49,48,48,48,48,48,48,48,49]])).bind fun r63=>(ub [97,103,101] r63.1 (ya.mk c58 l57 c59)).bind fun r65=>Qh r63.2.L r63.2.at_ r65.Headers r65.Status r65.Body) else (Qh r60.2.L r60.2.at_ l57 c58 c59)
noncomputable def Qj (c43:(List Int)) (c44:Int) (l45:(List zm)) (c46:Int) (c47:Bs):Option (ya×zh):=
 (qz (zh.mk c43 c44) 4).bind fun r48=>if r48.1 then ((qf r48.2 ([[114,101,100],[114,101,100,44,32,98,108,117,101],[98,108,117,101,32,103,114,101,101,110],[114,101,100,32,114,101,100]])).bind fun r51=>(ub [99,97,99,104,101,45,116,97,103] r51.1 (ya.mk c46 l45 c47)).bind fun r53=>Qi r51.2.L r51.2.at_ r53.Headers r53.Status r53.Body) else (Qi r48.2.L r48.2.at_ l45 c46 c47)
noncomputable def Qk (c29:(List Int)) (c30:Int) (l31:(List zm)) (c32:Int) (c33:Bs):Option (ya×zh):=
 (qz (zh.mk c29 c30) 2).bind fun r34=>if r34.1 then ((qf r34.2 ([[101,116,97,103],[69,84,97,103]])).bind fun r37=>(qf r37.2 ([[34,118,49,34],[87,47,34,118,50,34],[118,51]])).bind fun r39=>(ub r37.1 r39.1 (ya.mk c32 l31 c33)).bind fun r41=>Qj r39.2.L r39.2.at_ r41.Headers r41.Status r41.Body) else (Qj r34.2.L r34.2.at_ l31 c32 c33)
noncomputable def Ql (c17:(List Int)) (c18:Int) (l19:(List zm)) (c20:Int) (c21:Bs):Option (ya×zh):=
 (qz (zh.mk c17 c18) 3).bind fun r22=>if r22.1 then ((qf r22.2 ([[97,99,99,101,112,116,45,108,97,110,103,117,97,103,101],[65,99,99,101,112,116,45,76,97,110,103,117,97,103,101,44,32,120,45,111,110,101],[42],[],[120,45,111,110,101,44,88,45,79,110,101]])).bind fun r25=>(ub [118,97,114,121] r25.1 (ya.mk c20 l19 c21)).bind fun r27=>Qk r25.2.L r25.2.at_ r27.Headers r27.Status r27.Body) else (Qk r22.2.L r22.2.at_ l19 c20 c21)
noncomputable def z3c (s1:zh):Option (ya×zh):=
 (ua s1 [200,200,200,200,404,304,500,204,201]).bind fun r2=>(js [122] 50).bind fun r4=>(qf r2.2 ([[104,101,108,108,111],[120],[],r4])).bind fun r6=>(qz r6.2 6).bind fun r8=>if !r8.1 then ((qf r8.2 ([[99,97,99,104,101,45,99,111,110,116,114,111,108],[67,97,99,104,101,45,67,111,110,116,114,111,108]])).bind fun r11=>(z3a r11.2).bind fun r13=>(ub r11.1 r13.1 (ya.mk r2.1 ([]:List zm) r6.1)).bind fun r15=>Ql r13.2.L r13.2.at_ r15.Headers r15.Status r15.Body) else (Ql r8.2.L r8.2.at_ ([]:List zm) r2.1 r6.1)
noncomputable def z26 (s1:zh):Option (Bs×zh):=
 (qf s1 ([[97,46,98],[97,46,98],[65,46,66],[97,46,98,58,56,48],[99,46,100,58,56,48,56,48]])).bind fun r2=>some (r2.1,r2.2)
noncomputable def z1o (k8:Nat) (c5:(List Int)) (c6:Int) (l7:(List zm)):Option (((List Int)×Int×(List zm)) ⊕ ((List zm)×zh)):=
 (qf (zh.mk c5 c6) ([[97,99,99,101,112,116],[65,99,99,101,112,116],[120,45,111,110,101],[88,45,84,119,111],[99,111,111,107,105,101],[118,97,114,121],[99,111,110,110,101,99,116,105,111,110],[120,45,102,111,114,119,97,114,100,101,100,45,102,111,114],[118,105,97],[120,45,102,111,114,119,97,114,100,101,100,45,104,111,115,116],[116,101]])).bind fun r12=>(qf r12.2 ([[49],[120],[97,44,32,98],[],[120,45,111,110,101,44,32,99,108,111,115,101],[103,119],[49,46,50,46,51,46,52],[53,46,54,46,55,46,56,44,32,57,46,57,46,57,46,57]])).bind fun r14=>if l7.length+1≤1000000000 then (some (.inl (r14.2.L,r14.2.at_,(l7++[(zm.mk r12.1 r14.1)])))) else none
noncomputable def z1p (c5:(List Int)) (c6:Int) (l7:(List zm)):Option ((List zm)×zh):=
 some (l7,(zh.mk c5 c6))
noncomputable def xb (s1:zh) (most2:Int):Option ((List zm)×zh):=
 (kz s1 0 most2).bind fun r3=>if r3.1≤1000000000 then rng (fun (k:Nat) (s:(List Int)×Int×(List zm))=>z1o k s.1 s.2.1 s.2.2) (fun (s:(List Int)×Int×(List zm))=>z1p s.1 s.2.1 s.2.2) r3.1.toNat 0 (r3.2.L,r3.2.at_,[]) else none
noncomputable def z1n (r2:(Int×zh)) (r4:(Bs×zh)) (r6:(Bs×zh)) (r8:(Bs×zh)) (r10:(Bs×zh)) (r12:(Bs×zh)) (r14:((List zm)×zh)) (c23:(List Int)) (c24:Int) (c25:Bs):Option (yv×zh):=
 some ((yv.mk r2.1 r4.1 r6.1 r8.1 r10.1 r12.1 r14.1 c25),(zh.mk c23 c24))
noncomputable def z25 (s1:zh):Option (yv×zh):=
 (ua s1 [0,5,1000,60000]).bind fun r2=>(qf r2.2 ([[71,69,84],[71,69,84],[71,69,84],[72,69,65,68],[80,79,83,84],[103,101,116]])).bind fun r4=>(z26 r4.2).bind fun r6=>(qf r6.2 ([[47],[47,97],[47,97],[47,97,47,98],[47,97,47,46,46,47,98],[47,37,52,49]])).bind fun r8=>(qf r8.2 ([[],[],[120,61,49],[98,61,50,38,97,61,49]])).bind fun r10=>(qf r10.2 ([[49,48,46,48,46,48,46,49],[49,48,46,48,46,48,46,49],[57,46,57,46,57,46,57],[]])).bind fun r12=>(xb r12.2 4).bind fun r14=>(qz r14.2 4).bind fun r16=>if r16.1 then ((js [97,98] 40).bind fun r19=>(qf r16.2 ([[104,101,108,108,111],[120],r19])).bind fun r21=>z1n r2 r4 r6 r8 r10 r12 r14 r21.2.L r21.2.at_ r21.1) else (z1n r2 r4 r6 r8 r10 r12 r14 r16.2.L r16.2.at_ [])
noncomputable def z0s (s1:zh):Option (Bs×zh):=
 (js [110] 101).bind fun r2=>(qf s1 ([[97,99,99,101,112,116],[88,45,79,110,101],[120,45,111,110,101],[118,105,97],[97],[65],[116,101],[99,111,110,110,101,99,116,105,111,110],[],[97,32,98],[97,58],[127],r2])).bind fun r4=>some (r4.1,r4.2)
noncomputable def z29 (s1:zh):Option (Bs×zh):=
 (js [97] 64).bind fun r2=>(qf s1 ([[97,46,98],[97,46,98],[65,46,66],[115,104,111,112,46,101,120,97,109,112,108,101],[97,46,98,58,56,48],[97,46,98,58,52,52,51],[97,46,98,58,56,48,56,48],[120,45,49,46,121],[49,46,50,46,51,46,52],[],[97,46,46,98],[45,97,46,98],[97,46,98,58,48],[97,46,98,58,48,56],[97,46,98,58,54,53,53,51,54],[97,95,98],[97,46,98,58],[97,32,98],r2])).bind fun r4=>some (r4.1,r4.2)
noncomputable def z0w (s1:zh):Option (Bs×zh):=
 (js [118] 2001).bind fun r2=>(qf s1 ([[49],[120],[97,44,32,98],[],[116,101,120,116,47,104,116,109,108],[99,108,111,115,101],[120,45,111,110,101],[103,119,44,32,98],[49,46,50,46,51,46,52,44,32,53,46,54,46,55,46,56],[32,120],[120,32],[97,9,98],[128],r2])).bind fun r4=>some (r4.1,r4.2)
noncomputable def z7c (k20:Nat) (l19:(List zm)):Option ((List zm) ⊕ ((List zm)×zh)):=
 if l19.length+1≤1000000000 then (some (.inl (l19++([(zm.mk [110] [118])])))) else none
noncomputable def Qc (out25:(List zm)) (c26:(List Int)) (c27:Int):Option ((List zm)×zh):=
 some (out25,(zh.mk c26 c27))
noncomputable def z7d (r16:(Bool×zh)) (l19:(List zm)):Option ((List zm)×zh):=
 Qc l19 r16.2.L r16.2.at_
noncomputable def Qd (out13:(List zm)) (c14:(List Int)) (c15:Int):Option ((List zm)×zh):=
 (qz (zh.mk c14 c15) 60).bind fun r16=>if r16.1 then (if 51≤1000000000 then rng (fun (k:Nat) (s:(List zm))=>z7c k s) (fun (s:(List zm))=>z7d r16 s) 51 0 out13 else none) else (Qc out13 r16.2.L r16.2.at_)
noncomputable def z0v (s1:zh) (most2:Int):Option ((List zm)×zh):=
 (xb s1 most2).bind fun r3=>(qz r3.2 10).bind fun r5=>if r5.1 then ((z0s r5.2).bind fun r8=>(z0w r8.2).bind fun r10=>if r3.1.length+1≤1000000000 then (Qd (r3.1++[(zm.mk r8.1 r10.1)]) r10.2.L r10.2.at_) else none) else (Qd r3.1 r5.2.L r5.2.at_)
noncomputable def jw (c34:(List Int)) (c35:Int) (c36:Int) (c37:Bs) (c38:Bs) (c39:Bs) (c40:Bs) (c41:Bs) (c42:(List zm)) (c43:Bs):Option (yv×zh):=
 some ((yv.mk c36 c37 c38 c39 c40 c41 c42 c43),(zh.mk c34 c35))
noncomputable def z28 (s1:zh):Option (yv×zh):=
 (z25 s1).bind fun r2=>(qz r2.2 6).bind fun r4=>if r4.1 then ((jv r4.2 8).bind fun r7=>if decide (r7.1=0) then ((Yg r7.2 0 1000).bind fun r10=>jw r10.2.L r10.2.at_ r10.1 r2.1.Method r2.1.Host r2.1.Path r2.1.Query r2.1.From r2.1.Headers r2.1.Body) else (if decide (r7.1=1) then ((z0s r7.2).bind fun r13=>jw r13.2.L r13.2.at_ r2.1.At r13.1 r2.1.Host r2.1.Path r2.1.Query r2.1.From r2.1.Headers r2.1.Body) else (if decide (r7.1=2) then ((z29 r7.2).bind fun r16=>jw r16.2.L r16.2.at_ r2.1.At r2.1.Method r16.1 r2.1.Path r2.1.Query r2.1.From r2.1.Headers r2.1.Body) else (if decide (r7.1=3) then ((z0u r7.2).bind fun r19=>jw r19.2.L r19.2.at_ r2.1.At r2.1.Method r2.1.Host r19.1 r2.1.Query r2.1.From r2.1.Headers r2.1.Body) else (if decide (r7.1=4) then ((z0t r7.2).bind fun r22=>jw r22.2.L r22.2.at_ r2.1.At r2.1.Method r2.1.Host r2.1.Path r22.1 r2.1.From r2.1.Headers r2.1.Body) else (if decide (r7.1=5) then ((z0w r7.2).bind fun r25=>jw r25.2.L r25.2.at_ r2.1.At r2.1.Method r2.1.Host r2.1.Path r2.1.Query r25.1 r2.1.Headers r2.1.Body) else (if decide (r7.1=6) then ((z0v r7.2 4).bind fun r28=>jw r28.2.L r28.2.at_ r2.1.At r2.1.Method r2.1.Host r2.1.Path r2.1.Query r2.1.From r28.1 r2.1.Body) else ((ua r7.2 [20000,20001]).bind fun r30=>(js [98] r30.1).bind fun r32=>jw r30.2.L r30.2.at_ r2.1.At r2.1.Method r2.1.Host r2.1.Path r2.1.Query r2.1.From r2.1.Headers r32)))))))) else (jw r4.2.L r4.2.at_ r2.1.At r2.1.Method r2.1.Host r2.1.Path r2.1.Query r2.1.From r2.1.Headers r2.1.Body)
noncomputable def z24 (s1:zh):Option (ya×zh):=
 (ua s1 [200,200,200,204,304,404,500,503]).bind fun r2=>(xb r2.2 3).bind fun r4=>(qf r4.2 ([[],[104,101,108,108,111],[120]])).bind fun r6=>some ((ya.mk r2.1 r4.1 r6.1),r6.2)
noncomputable def Zi (c19:(List Int)) (c20:Int) (c21:Int) (c22:(List zm)) (c23:Bs):Option (ya×zh):=
 some ((ya.mk c21 c22 c23),(zh.mk c19 c20))
noncomputable def z27 (s1:zh):Option (ya×zh):=
 (z24 s1).bind fun r2=>(qz r2.2 8).bind fun r4=>if r4.1 then ((jv r4.2 3).bind fun r7=>if decide (r7.1=0) then ((Yg r7.2 100 599).bind fun r10=>Zi r10.2.L r10.2.at_ r10.1 r2.1.Headers r2.1.Body) else (if decide (r7.1=1) then ((z0v r7.2 3).bind fun r13=>Zi r13.2.L r13.2.at_ r2.1.Status r13.1 r2.1.Body) else ((ua r7.2 [20000,20001]).bind fun r15=>(js [98] r15.1).bind fun r17=>Zi r15.2.L r15.2.at_ r2.1.Status r2.1.Headers r17))) else (Zi r4.2.L r4.2.at_ r2.1.Status r2.1.Headers r2.1.Body)
noncomputable def z2t (n1:Int):Option (Bool):=
 some ((decide (0≤n1)) && (decide (n1 < 345686400000)))
noncomputable def z6b (c1:Int):Option (Bool):=
 some (((decide (97≤c1)) && (decide (c1≤122))) || ((decide (65≤c1)) && (decide (c1≤90))))
noncomputable def z6c (c1:Int):Option (Bool):=
 some ((decide (48≤c1)) && (decide (c1≤57)))
noncomputable def Wt (v14:Bool):Option (Bool):=
 some v14
noncomputable def z2p (c1:Int):Option (Bool):=
 (z6b c1).bind fun r2=>if r2 then (Wt true) else ((z6c c1).bind fun r6=>if r6 then (Wt true) else ((z57 [33,35,36,37,38,39,42,43,45,46,94,95,96,124,126] c1).bind fun r10=>Wt (decide (0≤r10))))
noncomputable def z5z (k2:Nat) (x5:UInt8):Option (Unit ⊕ (Bool)):=
 (z2p (x5.toNat:Int)).bind fun r8=>if !r8 then (some (.inr false)) else (some (.inl ()))
noncomputable def z8u (s1:Bs):Option (Bool):=
 some ((decide (s1≠[])) && (decide ((s1.length:Int)≤100)))
noncomputable def xx (s1:Bs):Option (Bool):=
 if s1.length≤1000000000 then forL (fun (k:Nat) (x:UInt8) (s:Unit)=>z5z k x) (fun (s:Unit)=>z8u s1) 0 s1 () else none
noncomputable def vz (c1:Int):Option (Int):=
 some (or_ .u8 c1 32)
noncomputable def z05 (v47:Int) (v85:Int):Option ((Int×Int) ⊕ (Bool)):=
 some (.inl (v85,wr (v47+1)))
noncomputable def uc (v14:Bs) (v46:Int) (v47:Int) (v78:Bool):Option ((Int×Int) ⊕ (Bool)):=
 if v78 then (z05 v47 48) else ((at? v14 v47).bind fun (x80:UInt8)=>if decide ((x80.toNat:Int)=95) then (if decide (v46≠48) then (some (.inr false)) else (z05 v47 95)) else (if decide (v46=95) then (some (.inr false)) else (z05 v47 33)))
noncomputable def z6x (v86:Int):Option (Bool):=
 some (decide (v86≠95))
noncomputable def z9h (v14:Bs) (v45:Bool) (v46:Int) (v47:Int):Option ((Int×Int) ⊕ (Bool)):=
 if decide (v47 < (v14.length:Int)) then ((at? v14 v47).bind fun (x50:UInt8)=>if decide (48≤(x50.toNat:Int)) then (if decide ((x50.toNat:Int)≤57) then (uc v14 v46 v47 true) else (if v45 then ((vz (x50.toNat:Int)).bind fun r58=>if decide (97≤r58) then ((vz (x50.toNat:Int)).bind fun r62=>uc v14 v46 v47 (decide (r62≤102))) else (uc v14 v46 v47 false)) else (uc v14 v46 v47 false))) else (if v45 then ((vz (x50.toNat:Int)).bind fun r70=>if decide (97≤r70) then ((vz (x50.toNat:Int)).bind fun r74=>uc v14 v46 v47 (decide (r74≤102))) else (uc v14 v46 v47 false)) else (uc v14 v46 v47 false))) else (Option.map .inr (z6x v46))
noncomputable def z3t (v14:Bs) (v43:Int) (v44:Int) (v45:Bool):Option (Bool):=
 iter (fun (s:Int×Int)=>z9h v14 v45 s.1 s.2) (v43,v44)
noncomputable def Ze (v14:Bs) (v37:Bool):Option (Bool):=
 if v37 then ((v14[1]?).bind fun (x39:UInt8)=>(vz (x39.toNat:Int)).bind fun r41=>z3t v14 48 2 (decide (r41=120))) else (z3t v14 94 0 false)
noncomputable def z3u (v14:Bs):Option (Bool):=
 if decide (2≤(v14.length:Int)) then ((v14[0]?).bind fun (x17:UInt8)=>if decide ((x17.toNat:Int)=48) then ((v14[1]?).bind fun (x21:UInt8)=>(vz (x21.toNat:Int)).bind fun r23=>if decide (r23=98) then (Ze v14 true) else ((vz (x21.toNat:Int)).bind fun r27=>if decide (r27=111) then (Ze v14 true) else ((vz (x21.toNat:Int)).bind fun r31=>Ze v14 (decide (r31=120))))) else (Ze v14 false)) else (Ze v14 false)
noncomputable def z06 (v1:Bs) (v10:Bool):Option (Bool):=
 if v10 then ((sub? v1 1 (v1.length:Int)).bind fun (l12:Bs)=>z3u l12) else (z3u v1)
noncomputable def z8y (v1:Bs):Option (Bool):=
 if decide (1≤(v1.length:Int)) then ((v1[0]?).bind fun (x4:UInt8)=>if decide ((x4.toNat:Int)=45) then (z06 v1 true) else (z06 v1 (decide ((x4.toNat:Int)=43)))) else (z06 v1 false)
noncomputable def z3v (v87:Bool) (v88:Int):Option ((Bool×Int) ⊕ (Int×Int)):=
 some (.inl (v87,v88))
noncomputable def z33 (v46:Int) (v49:Int) (v53:Int) (v55:Bool) (v56:Int) (v83:Int):Option ((Bool×Int) ⊕ (Int×Int)):=
 if decide ((IntKind.wrap .u8 v46)≤v83) then (some (.inr (0,2))) else (if decide (v53≤v56) then (some (.inr (IntKind.wrap .u64 ((shl_ .u64 1 (IntKind.wrap .u64 v49)) - 1),1))) else (if ((decide ((IntKind.wrap .u64 ((IntKind.wrap .u64 (v56 * (IntKind.wrap .u64 v46)))+(IntKind.wrap .u64 v83))) < (IntKind.wrap .u64 (v56 * (IntKind.wrap .u64 v46))))) || (decide ((IntKind.wrap .u64 ((shl_ .u64 1 (IntKind.wrap .u64 v49)) - 1)) < (IntKind.wrap .u64 ((IntKind.wrap .u64 (v56 * (IntKind.wrap .u64 v46)))+(IntKind.wrap .u64 v83)))))) then (some (.inr (IntKind.wrap .u64 ((shl_ .u64 1 (IntKind.wrap .u64 v49)) - 1),1))) else (z3v v55 (IntKind.wrap .u64 ((IntKind.wrap .u64 (v56 * (IntKind.wrap .u64 v46)))+(IntKind.wrap .u64 v83))))))
noncomputable def z32 (v46:Int) (v49:Int) (v53:Int) (v55:Bool) (v56:Int) (x60:Int) (v79:Bool):Option ((Bool×Int) ⊕ (Int×Int)):=
 if v79 then ((vz x60).bind fun r81=>z33 v46 v49 v53 v55 v56 (IntKind.wrap .u8 ((IntKind.wrap .u8 (r81 - 97))+10))) else (some (.inr (0,2)))
noncomputable def z9i (v2:Int) (v46:Int) (v49:Int) (v53:Int) (k57:Nat) (x60:Int) (v55:Bool) (v56:Int):Option ((Bool×Int) ⊕ (Int×Int)):=
 if ((decide (x60=95)) && (decide (v2=0))) then (z3v true v56) else (if ((decide (48≤x60)) && (decide (x60≤57))) then (z33 v46 v49 v53 v55 v56 (IntKind.wrap .u8 (x60 - 48))) else ((vz x60).bind fun r72=>if decide (97≤r72) then ((vz x60).bind fun r76=>z32 v46 v49 v53 v55 v56 x60 (decide (r76≤122))) else (z32 v46 v49 v53 v55 v56 x60 false)))
noncomputable def z3w (v56:Int) (v66:Bool):Option (Int×Int):=
 if v66 then (some (0,2)) else (some (v56,0))
noncomputable def z9j (v1:Bs) (v55:Bool) (v56:Int):Option (Int×Int):=
 if v55 then ((z8y v1).bind fun r63=>z3w v56 (!r63)) else (z3w v56 false)
noncomputable def z07 (v1:Bs) (v2:Int) (v45:Bs) (v46:Int) (v49:Int) (v53:Int):Option (Int×Int):=
 if (0:Int)≤(IntKind.wrap .u64 v49) then (if (ww v45).length≤1000000000 then forL (fun (k:Nat) (x:Int) (s:Bool×Int)=>z9i v2 v46 v49 v53 k x s.1 s.2) (fun (s:Bool×Int)=>z9j v1 s.1 s.2) 0 (ww v45) (false,0) else none) else none
noncomputable def z3x (v1:Bs) (v2:Int) (v45:Bs) (v46:Int) (v49:Int):Option (Int×Int):=
 if decide (v46=10) then (z07 v1 v2 v45 v46 v49 1844674407370955162) else (if decide (v46=16) then (z07 v1 v2 v45 v46 v49 1152921504606846976) else (if (IntKind.wrap .u64 v46)≠0 then (z07 v1 v2 v45 v46 v49 (IntKind.wrap .u64 ((IntKind.wrap .u64 (Int.tdiv 18446744073709551615 (IntKind.wrap .u64 v46)))+1))) else none))
noncomputable def xh (v1:Bs) (v2:Int) (v3:Int) (v45:Bs) (v46:Int):Option (Int×Int):=
 if decide (v3=0) then (z3x v1 v2 v45 v46 64) else (if ((decide (v3 < 0)) || (decide (64 < v3))) then (some (0,4)) else (z3x v1 v2 v45 v46 v3))
noncomputable def z3y (v1:Bs) (v2:Int) (v3:Int) (v39:Bool):Option (Int×Int):=
 if v39 then ((sub? v1 2 (v1.length:Int)).bind fun (l41:Bs)=>xh v1 v2 v3 l41 16) else ((sub? v1 1 (v1.length:Int)).bind fun (l43:Bs)=>xh v1 v2 v3 l43 8)
noncomputable def z3z (v1:Bs) (v2:Int) (v3:Int) (v28:Bool):Option (Int×Int):=
 if v28 then ((sub? v1 2 (v1.length:Int)).bind fun (l30:Bs)=>xh v1 v2 v3 l30 8) else (if decide (3≤(v1.length:Int)) then ((v1[1]?).bind fun (x34:UInt8)=>(vz (x34.toNat:Int)).bind fun r36=>z3y v1 v2 v3 (decide (r36=120))) else (z3y v1 v2 v3 false))
noncomputable def z30 (v1:Bs) (v2:Int) (v3:Int) (v17:Bool):Option (Int×Int):=
 if v17 then ((sub? v1 2 (v1.length:Int)).bind fun (l19:Bs)=>xh v1 v2 v3 l19 2) else (if decide (3≤(v1.length:Int)) then ((v1[1]?).bind fun (x23:UInt8)=>(vz (x23.toNat:Int)).bind fun r25=>z3z v1 v2 v3 (decide (r25=111))) else (z3z v1 v2 v3 false))
noncomputable def z8z (v1:Bs) (v2:Int) (v3:Int):Option (Int×Int):=
 if decide (v1=[]) then (some (0,2)) else (if ((decide (2≤v2)) && (decide (v2≤36))) then (xh v1 v2 v3 v1 v2) else (if decide (v2=0) then ((v1[0]?).bind fun (x7:UInt8)=>if decide ((x7.toNat:Int)=48) then (if decide (3≤(v1.length:Int)) then ((v1[1]?).bind fun (x12:UInt8)=>(vz (x12.toNat:Int)).bind fun r14=>z30 v1 v2 v3 (decide (r14=98))) else (z30 v1 v2 v3 false)) else (xh v1 v2 v3 v1 10)) else (some (0,3))))
noncomputable def z34 (v29:Int):Option (Int×Int):=
 some (v29,0)
noncomputable def z35 (v14:Bool) (r15:(Int×Int)) (v24:Int):Option (Int×Int):=
 if (0:Int)≤(IntKind.wrap .u64 (wr (v24 - 1))) then (if ((!v14) && (decide ((shl_ .u64 1 (IntKind.wrap .u64 (wr (v24 - 1))))≤r15.1))) then (some (IntKind.wrap .i64 (IntKind.wrap .u64 ((shl_ .u64 1 (IntKind.wrap .u64 (wr (v24 - 1)))) - 1)),1)) else (if (v14 && (decide ((shl_ .u64 1 (IntKind.wrap .u64 (wr (v24 - 1)))) < r15.1))) then (some ((wr (-(IntKind.wrap .i64 (shl_ .u64 1 (IntKind.wrap .u64 (wr (v24 - 1))))))),1)) else (if v14 then (z34 (wr (-(IntKind.wrap .i64 r15.1)))) else (z34 (IntKind.wrap .i64 r15.1))))) else none
noncomputable def z36 (v3:Int) (v14:Bool) (r15:(Int×Int)) (v21:Bool):Option (Int×Int):=
 if v21 then (some (0,r15.2)) else (if decide (v3=0) then (z35 v14 r15 64) else (z35 v14 r15 v3))
noncomputable def z08 (v2:Int) (v3:Int) (v13:Bs) (v14:Bool):Option (Int×Int):=
 (z8z v13 v2 v3).bind fun r15=>if decide (r15.2≠0) then (if (0:Int)≤r15.2∧r15.2≤(4:Int) then (z36 v3 v14 r15 (decide (r15.2≠1))) else none) else (z36 v3 v14 r15 false)
noncomputable def z80 (v1:Bs) (v2:Int) (v3:Int):Option (Int×Int):=
 if decide (v1=[]) then (some (0,2)) else ((v1[0]?).bind fun (x5:UInt8)=>if decide ((x5.toNat:Int)=43) then ((sub? v1 1 (v1.length:Int)).bind fun (l8:Bs)=>z08 v2 v3 l8 false) else (if decide ((x5.toNat:Int)=45) then ((sub? v1 1 (v1.length:Int)).bind fun (l11:Bs)=>z08 v2 v3 l11 true) else (z08 v2 v3 v1 false)))
noncomputable def z09 (k15:Nat) (x18:Int) (v14:Int):Option (Int ⊕ (Int×Int)):=
 if decide (9 < (IntKind.wrap .u8 (x18 - 48))) then (some (.inr (0,2))) else (some (.inl (wr ((wr (v14 * 10))+(IntKind.wrap .i64 (IntKind.wrap .u8 (x18 - 48)))))))
noncomputable def Yn (v23:Int):Option (Int×Int):=
 some (v23,0)
noncomputable def Yq (v1:Bs) (v14:Int):Option (Int×Int):=
 (v1[0]?).bind fun (x19:UInt8)=>if decide ((x19.toNat:Int)=45) then (if -9223372036854775807≤v14∧v14≤9223372036854775807 then (Yn (-v14)) else none) else (Yn v14)
noncomputable def Yp (v1:Bs) (v13:Bs):Option (Int×Int):=
 if (ww v13).length≤1000000000 then forL (fun (k:Nat) (x:Int) (s:Int)=>z09 k x s) (fun (s:Int)=>Yq v1 s) 0 (ww v13) 0 else none
noncomputable def Yo (v1:Bs) (v8:Bool):Option (Int×Int):=
 if v8 then ((sub? v1 1 (v1.length:Int)).bind fun (l10:Bs)=>if decide ((l10.length:Int) < 1) then (some (0,2)) else (Yp v1 l10)) else (Yp v1 v1)
noncomputable def Ye (v1:Bs):Option (Int×Int):=
 if ((false && ((decide (0 < (v1.length:Int))) && (decide ((v1.length:Int) < 10)))) || (true && ((decide (0 < (v1.length:Int))) && (decide ((v1.length:Int) < 19))))) then ((v1[0]?).bind fun (x3:UInt8)=>if decide ((x3.toNat:Int)=45) then (Yo v1 true) else (Yo v1 (decide ((x3.toNat:Int)=43)))) else ((z80 v1 10 0).bind fun r27=>some (r27.1,r27.2))
noncomputable def uy (s1:Bs):Option (Int×Int):=
 (Ye s1).bind fun r2=>if decide (r2.2≠0) then ((y2v [65,116,111,105] s1 0 0 r2.2).bind fun r5=>some (r2.1,r5)) else (some (r2.1,0))
noncomputable def z3l (v29:Bool):Option (Unit ⊕ (Int×Bool)):=
 if v29 then (some (.inr (0,false))) else (some (.inl ()))
noncomputable def z3k (i18:Nat) (x21:UInt8):Option (Unit ⊕ (Int×Bool)):=
 if decide ((x21.toNat:Int) < 48) then (z3l true) else (z3l (decide (57 < (x21.toNat:Int))))
noncomputable def z01 (s1:Bs):Option (Int×Bool):=
 (uy s1).bind fun r22=>some (r22.1,decide (r22.2=0))
noncomputable def jp (s1:Bs) (r3:(Bs)) (v16:Bool):Option (Int×Bool):=
 if v16 then (some (0,false)) else (if r3.length≤1000000000 then forL (fun (k:Nat) (x:UInt8) (s:Unit)=>z3k k x) (fun (s:Unit)=>z01 s1) 0 r3 () else none)
noncomputable def z0i (s1:Bs) (most2:Int):Option (Int×Bool):=
 (z0a s1 [45]).bind fun r3=>if decide (r3=[]) then (jp s1 r3 true) else (if decide (most2 < (r3.length:Int)) then (jp s1 r3 true) else ((r3[0]?).bind fun (x9:UInt8)=>if decide ((x9.toNat:Int)=48) then (jp s1 r3 (decide (s1≠[48]))) else (jp s1 r3 false)))
noncomputable def z2s (s1:Bs):Option (Int×Bool):=
 (z0i s1 9).bind fun r2=>some (r2.1,r2.2)
noncomputable def z0h (n1:Int) (low2:Int) (high3:Int):Option (Bool):=
 some ((decide (n1 < low2)) || (decide (high3 < n1)))
noncomputable def Zv (v19:Bool):Option (Bool):=
 some v19
noncomputable def Wv (v32:Bool):Option (Unit ⊕ (Bool)):=
 if v32 then (some (.inr false)) else (some (.inl ()))
noncomputable def z8s (k2:Nat) (x5:UInt8):Option (Unit ⊕ (Bool)):=
 (z6b (x5.toNat:Int)).bind fun r22=>if !r22 then ((z6c (x5.toNat:Int)).bind fun r26=>if !r26 then (Wv (decide ((x5.toNat:Int)≠45))) else (Wv false)) else (Wv false)
noncomputable def z8t (s1:Bs):Option (Bool):=
 if decide (s1≠[]) then (if decide ((s1.length:Int)≤63) then ((s1[0]?).bind fun (x10:UInt8)=>if decide ((x10.toNat:Int)≠45) then ((at? s1 (wr ((s1.length:Int) - 1))).bind fun (x14:UInt8)=>Zv (decide ((x14.toNat:Int)≠45))) else (Zv false)) else (Zv false)) else (Zv false)
noncomputable def z8x (s1:Bs):Option (Bool):=
 if s1.length≤1000000000 then forL (fun (k:Nat) (x:UInt8) (s:Unit)=>z8s k x) (fun (s:Unit)=>z8t s1) 0 s1 () else none
noncomputable def Zw (v23:Bool):Option (Bool):=
 some v23
noncomputable def z5w (k6:Nat) (x9:Bs):Option (Unit ⊕ (Bool)):=
 (z8x x9).bind fun r26=>if !r26 then (some (.inr false)) else (some (.inl ()))
noncomputable def z5x (s1:Bs) (r2:(Bs×Bs×Bool)):Option (Bool):=
 (z2s r2.2.1).bind fun r10=>if decide ((s1.length:Int)≤255) then (if !r2.2.2 then (Zw true) else (if r10.2 then ((z0h r10.1 1 65535).bind fun r18=>Zw (!r18)) else (Zw false))) else (Zw false)
noncomputable def z0f (s1:Bs):Option (Bool):=
 (ky s1 [58]).bind fun r2=>(kg r2.1 [46]).bind fun r4=>if r4.length≤1000000000 then forL (fun (k:Nat) (x:Bs) (s:Unit)=>z5w k x) (fun (s:Unit)=>z5x s1 r2) 0 r4 () else none
noncomputable def Wu (v13:Bool):Option (Unit ⊕ (Bool)):=
 if v13 then (some (.inr false)) else (some (.inl ()))
noncomputable def z5u (low2:Int) (high3:Int) (k4:Nat) (x7:UInt8):Option (Unit ⊕ (Bool)):=
 if decide ((x7.toNat:Int) < low2) then (Wu true) else (Wu (decide (high3 < (x7.toNat:Int))))
noncomputable def z5v:Option (Bool):=
 some true
noncomputable def xv (s1:Bs) (low2:Int) (high3:Int):Option (Bool):=
 if s1.length≤1000000000 then forL (fun (k:Nat) (x:UInt8) (s:Unit)=>z5u low2 high3 k x) (fun (s:Unit)=>z5v) 0 s1 () else none
noncomputable def xr (v17:Bool):Option (Int):=
 if v17 then some 3 else some 0
noncomputable def z2r (s1:Bs):Option (Int):=
 if decide (1000 < (s1.length:Int)) then (xr true) else ((z8v s1 [47]).bind fun r4=>if !r4 then (xr true) else ((xv s1 33 126).bind fun r8=>if !r8 then (xr true) else ((z0d s1 [63,35]).bind fun r12=>xr r12)))
noncomputable def Zu (v12:Bool):Option (Int):=
 if v12 then some 3 else some 0
noncomputable def z2o (s1:Bs):Option (Int):=
 if decide (1000 < (s1.length:Int)) then (Zu true) else ((xv s1 33 126).bind fun r4=>if !r4 then (Zu true) else ((z0e s1 [35]).bind fun r8=>Zu r8))
noncomputable def z2a (s14:Bs):Option (Bs):=
 some s14
noncomputable def Zn (s3:Bs) (v10:Bool):Option (Bs ⊕ (Bs)):=
 if v10 then ((sub? s3 0 (wr ((s3.length:Int) - 1))).bind fun (l12:Bs)=>some (.inl l12)) else (Option.map .inr (z2a s3))
noncomputable def z19 (c2:Int) (s3:Bs):Option (Bs ⊕ (Bs)):=
 if decide (0 < (s3.length:Int)) then ((at? s3 (wr ((s3.length:Int) - 1))).bind fun (x7:UInt8)=>Zn s3 (decide ((x7.toNat:Int)=c2))) else (Zn s3 false)
noncomputable def xt (s1:Bs) (c2:Int):Option (Bs):=
 iter (fun (s:Bs)=>z19 c2 s) s1
noncomputable def z2c (s14:Bs):Option (Bs):=
 some s14
noncomputable def Zo (s3:Bs) (v10:Bool):Option (Bs ⊕ (Bs)):=
 if v10 then ((sub? s3 1 (s3.length:Int)).bind fun (l12:Bs)=>some (.inl l12)) else (Option.map .inr (z2c s3))
noncomputable def z2b (c2:Int) (s3:Bs):Option (Bs ⊕ (Bs)):=
 if decide (0 < (s3.length:Int)) then ((s3[0]?).bind fun (x7:UInt8)=>Zo s3 (decide ((x7.toNat:Int)=c2))) else (Zo s3 false)
noncomputable def Zz (s1:Bs) (c2:Int):Option (Bs):=
 iter (fun (s:Bs)=>z2b c2 s) s1
noncomputable def Wn (s1:Bs) (cutset2:Bs) (v9:Bool):Option (Bs):=
 if v9 then ((cutset2[0]?).bind fun (x11:UInt8)=>(xt s1 (x11.toNat:Int)).bind fun r13=>(Zz r13 (x11.toNat:Int)).bind fun r15=>some r15) else none
noncomputable def ux (s1:Bs) (cutset2:Bs):Option (Bs):=
 if ((decide (s1=[])) || (decide (cutset2=[]))) then some s1 else (if decide ((cutset2.length:Int)=1) then ((cutset2[0]?).bind fun (x6:UInt8)=>Wn s1 cutset2 (decide ((x6.toNat:Int) < 128))) else (Wn s1 cutset2 false))
noncomputable def Zy (v12:Bool):Option (Bool):=
 some v12
noncomputable def Yc (s1:Bs):Option (Bool):=
 if decide ((s1.length:Int)≤2000) then ((xv s1 32 126).bind fun r4=>if r4 then ((ux s1 [32]).bind fun r8=>Zy (decide (r8=s1))) else (Zy false)) else (Zy false)
noncomputable def z50 (k3:Nat) (x6:zm):Option (Unit ⊕ (Int)):=
 (xx x6.Name).bind fun r9=>if !r9 then (some (.inr 5)) else ((Yc x6.Value).bind fun r12=>if !r12 then (some (.inr 3)) else (some (.inl ())))
noncomputable def z52:Option (Int):=
 some 0
noncomputable def z0g (l1:(List zm)):Option (Int):=
 if decide (50 < (l1.length:Int)) then some 2 else (if l1.length≤1000000000 then forL (fun (k:Nat) (x:zm) (s:Unit)=>z50 k x) (fun (s:Unit)=>z52) 0 l1 () else none)
noncomputable def uv (r1:yv) (v25:Bool):Option (Int):=
 if v25 then some 3 else ((z0g r1.Headers).bind fun r27=>if decide (r27≠0) then some r27 else (if decide (20000 < (r1.Body.length:Int)) then some 2 else some 0))
noncomputable def Yd (r1:yv):Option (Int):=
 (z2t r1.At).bind fun r2=>if !r2 then some 1 else ((xx r1.Method).bind fun r5=>if !r5 then some 5 else ((z0f r1.Host).bind fun r8=>if !r8 then (uv r1 true) else ((z2r r1.Path).bind fun r12=>if decide (r12≠0) then (uv r1 true) else ((z2o r1.Query).bind fun r16=>if decide (r16≠0) then (uv r1 true) else ((Yc r1.From).bind fun r20=>uv r1 (!r20))))))
noncomputable def jt (a1:ya):Option (Int):=
 (z0h a1.Status 100 599).bind fun r2=>if r2 then some 1 else ((z0g a1.Headers).bind fun r5=>if decide (r5≠0) then some r5 else (if decide (20000 < (a1.Body.length:Int)) then some 2 else some 0))
noncomputable def z3j  : Option ((List Bs)×(List Int)):=
 some ([[109,97,120,45,97,103,101],[115,45,109,97,120,97,103,101],[115,116,97,108,101,45,119,104,105,108,101,45,114,101,118,97,108,105,100,97,116,101],[115,116,97,108,101,45,105,102,45,101,114,114,111,114],[109,97,120,45,115,116,97,108,101],[109,105,110,45,102,114,101,115,104]],([6,7,8,9,10,11]:List Int))
noncomputable def z2q (h1:zm) (name2:Bs):Option (Bool):=
 (z58 h1.Name name2).bind fun r3=>some r3
noncomputable def Ww (out14:(List Bs)):Option ((List Bs) ⊕ ((List Bs))):=
 some (.inl out14)
noncomputable def Zx (name2:Bs) (k4:Nat) (x7:zm) (l3:(List Bs)):Option ((List Bs) ⊕ ((List Bs))):=
 (z2q x7 name2).bind fun r10=>if r10 then (if l3.length+1≤1000000000 then (Ww (l3++[x7.Value])) else none) else (Ww l3)
noncomputable def z5y (l3:(List Bs)):Option ((List Bs)):=
 some l3
noncomputable def vy (l1:(List zm)) (name2:Bs):Option ((List Bs)):=
 if l1.length≤1000000000 then forL (fun (k:Nat) (x:zm) (s:(List Bs))=>Zx name2 k x s) (fun (s:(List Bs))=>z5y s) 0 l1 [] else none
noncomputable def uu (out22:(List Bs)):Option ((List Bs) ⊕ ((List Bs) ⊕ ((List Bs)))):=
 some (.inl out22)
noncomputable def ur (k12:Nat) (x15:Bs) (l11:(List Bs)):Option ((List Bs) ⊕ ((List Bs) ⊕ ((List Bs)))):=
 (ux x15 [32]).bind fun r18=>if decide (r18≠[]) then (if l11.length+1≤1000000000 then (uu (l11++[r18])) else none) else (uu l11)
noncomputable def Wx (l11:(List Bs)):Option ((List Bs) ⊕ ((List Bs))):=
 some (.inl l11)
noncomputable def ut (k3:Nat) (x6:Bs) (l2:(List Bs)):Option ((List Bs) ⊕ ((List Bs))):=
 (kg x6 [44]).bind fun r9=>if r9.length≤1000000000 then forL (fun (k:Nat) (x:Bs) (s:(List Bs))=>ur k x s) (fun (s:(List Bs))=>Wx s) 0 r9 l2 else none
noncomputable def Wy (l2:(List Bs)):Option ((List Bs)):=
 some l2
noncomputable def xw (values1:(List Bs)):Option ((List Bs)):=
 if values1.length≤1000000000 then forL (fun (k:Nat) (x:Bs) (s:(List Bs))=>ut k x s) (fun (s:(List Bs))=>Wy s) 0 values1 [] else none
noncomputable def z10 (r2:(Int×Bool)) (v9:Bool):Option (Int×Bool):=
 some (r2.1,v9)
noncomputable def z3i (s1:Bs):Option (Int×Bool):=
 (z2s s1).bind fun r2=>if r2.2 then ((z0h r2.1 0 100000000).bind fun r6=>z10 r2 (!r6)) else (z10 r2 false)
noncomputable def z6k  : Option ((List Bs)×(List Int)):=
 some ([[110,111,45,115,116,111,114,101],[110,111,45,99,97,99,104,101],[112,114,105,118,97,116,101],[112,117,98,108,105,99],[109,117,115,116,45,114,101,118,97,108,105,100,97,116,101],[111,110,108,121,45,105,102,45,99,97,99,104,101,100]],([0,1,2,3,4,5]:List Int))
noncomputable def z78 (v2:Bs) (k3:Nat) (x6:Bs):Option (Unit ⊕ (Int)):=
 if decide (v2=x6) then (some (.inr (k3:Int))) else (some (.inl ()))
noncomputable def z79:Option (Int):=
 some (-1)
noncomputable def uz (s1:(List Bs)) (v2:Bs):Option (Int):=
 if s1.length≤1000000000 then forL (fun (k:Nat) (x:Bs) (s:Unit)=>z78 v2 k x) (fun (s:Unit)=>z79) 0 s1 () else none
noncomputable def z1y (r3:(Bs×Bs×Bool)) (c41:Bool) (c42:Bool) (c43:Bool) (c44:Bool) (c45:Bool) (c46:Bool) (c47:Int) (c48:Int) (c49:Int) (c50:Int) (c51:Int) (c52:Int):Option (Bool×zv):=
 some (r3.2.2,(zv.mk c41 c42 c43 c44 c45 c46 c47 c48 c49 c50 c51 c52))
noncomputable def z1x (s1:zv) (r3:(Bs×Bs×Bool)) (r5:(Int×Bool)) (r22:((List Bs)×(List Int))) (r24:(Int)) (v34:Bool):Option (Bool×zv):=
 if v34 then ((at? r22.2 r24).bind fun (x36:Int)=>if jy x36=true then ((some (ke s1 x36 r5.1)).bind fun (c39:zv)=>z1y r3 c39.NoStore c39.NoCache c39.Private c39.Public c39.Must c39.Only c39.MaxAge c39.Shared c39.Stale c39.OnError c39.MaxStale c39.MinFresh) else none) else (z1y r3 s1.NoStore s1.NoCache s1.Private s1.Public s1.Must s1.Only s1.MaxAge s1.Shared s1.Stale s1.OnError s1.MaxStale s1.MinFresh)
noncomputable def z0y (s1:zv) (v2:Bs):Option (Bool×zv):=
 (ky v2 [61]).bind fun r3=>(z3i r3.2.1).bind fun r5=>(xx r3.1).bind fun r7=>if ((!r7) || (r3.2.2 && (!r5.2))) then (some (false,s1)) else ((vu r3.1).bind fun r10=>(z6k).bind fun r12=>(uz r12.1 r10).bind fun r14=>if decide (0≤r14) then ((at? r12.2 r14).bind fun (x17:Int)=>if z4g x17=true then ((some (jd s1 x17 true)).bind fun (c20:zv)=>some (!r3.2.2,c20)) else none) else ((z3j).bind fun r22=>(uz r22.1 r10).bind fun r24=>if decide (r24 < 0) then (some (true,s1)) else ((at? r22.2 r24).bind fun (x27:Int)=>if jy x27=true then (if decide ((wg s1 x27)=(-1)) then (z1x s1 r3 r5 r22 r24 true) else (if jy x27=true then (z1x s1 r3 r5 r22 r24 (decide (r5.1 < (wg s1 x27)))) else none)) else none)))
noncomputable def Zl (k36:Nat) (x39:Bs) (c24:Bool) (c25:Bool) (c26:Int) (c27:Int) (c28:Bool) (c29:Bool) (c30:Bool) (c31:Bool) (c32:Int) (c33:Int) (c34:Int) (c35:Int):Option ((Bool×Bool×Int×Int×Bool×Bool×Bool×Bool×Int×Int×Int×Int) ⊕ (zv×Int)):=
 (z0y (zv.mk c24 c25 c28 c29 c30 c31 c32 c33 c34 c35 c26 c27) x39).bind fun r42=>if !r42.1 then (some (.inr ((zv.mk false false false false false false 0 0 0 0 0 0),9))) else (some (.inl (r42.2.NoStore,r42.2.NoCache,r42.2.MaxStale,r42.2.MinFresh,r42.2.Private,r42.2.Public,r42.2.Must,r42.2.Only,r42.2.MaxAge,r42.2.Shared,r42.2.Stale,r42.2.OnError)))
noncomputable def z7k (c24:Bool) (c25:Bool) (c26:Int) (c27:Int) (c28:Bool) (c29:Bool) (c30:Bool) (c31:Bool) (c32:Int) (c33:Int) (c34:Int) (c35:Int):Option (zv×Int):=
 some ((zv.mk c24 c25 c28 c29 c30 c31 c32 c33 c34 c35 c26 c27),0)
noncomputable def z93 (k16:Nat) (x19:Int) (c4:Bool) (c5:Bool) (c6:Int) (c7:Int) (c8:Bool) (c9:Bool) (c10:Bool) (c11:Bool) (c12:Int) (c13:Int) (c14:Int) (c15:Int):Option ((Bool×Bool×Int×Int×Bool×Bool×Bool×Bool×Int×Int×Int×Int) ⊕ (zv×Int)):=
 if jy x19=true then ((some (ke (zv.mk c4 c5 c8 c9 c10 c11 c12 c13 c14 c15 c6 c7) x19 (-1))).bind fun (c48:zv)=>some (.inl (c48.NoStore,c48.NoCache,c48.MaxStale,c48.MinFresh,c48.Private,c48.Public,c48.Must,c48.Only,c48.MaxAge,c48.Shared,c48.Stale,c48.OnError))) else none
noncomputable def Qz (l1:(List zm)) (c4:Bool) (c5:Bool) (c6:Int) (c7:Int) (c8:Bool) (c9:Bool) (c10:Bool) (c11:Bool) (c12:Int) (c13:Int) (c14:Int) (c15:Int):Option (zv×Int):=
 (vy l1 [99,97,99,104,101,45,99,111,110,116,114,111,108]).bind fun r20=>(xw r20).bind fun r22=>if r22.length≤1000000000 then forL (fun (k:Nat) (x:Bs) (s:Bool×Bool×Int×Int×Bool×Bool×Bool×Bool×Int×Int×Int×Int)=>Zl k x s.1 s.2.1 s.2.2.1 s.2.2.2.1 s.2.2.2.2.1 s.2.2.2.2.2.1 s.2.2.2.2.2.2.1 s.2.2.2.2.2.2.2.1 s.2.2.2.2.2.2.2.2.1 s.2.2.2.2.2.2.2.2.2.1 s.2.2.2.2.2.2.2.2.2.2.1 s.2.2.2.2.2.2.2.2.2.2.2) (fun (s:Bool×Bool×Int×Int×Bool×Bool×Bool×Bool×Int×Int×Int×Int)=>z7k s.1 s.2.1 s.2.2.1 s.2.2.2.1 s.2.2.2.2.1 s.2.2.2.2.2.1 s.2.2.2.2.2.2.1 s.2.2.2.2.2.2.2.1 s.2.2.2.2.2.2.2.2.1 s.2.2.2.2.2.2.2.2.2.1 s.2.2.2.2.2.2.2.2.2.2.1 s.2.2.2.2.2.2.2.2.2.2.2) 0 r22 (c4,c5,c6,c7,c8,c9,c10,c11,c12,c13,c14,c15) else none
noncomputable def kr (l1:(List zm)):Option (zv×Int):=
 (z3j).bind fun r2=>if r2.2.length≤1000000000 then forL (fun (k:Nat) (x:Int) (s:Bool×Bool×Int×Int×Bool×Bool×Bool×Bool×Int×Int×Int×Int)=>z93 k x s.1 s.2.1 s.2.2.1 s.2.2.2.1 s.2.2.2.2.1 s.2.2.2.2.2.1 s.2.2.2.2.2.2.1 s.2.2.2.2.2.2.2.1 s.2.2.2.2.2.2.2.2.1 s.2.2.2.2.2.2.2.2.2.1 s.2.2.2.2.2.2.2.2.2.2.1 s.2.2.2.2.2.2.2.2.2.2.2) (fun (s:Bool×Bool×Int×Int×Bool×Bool×Bool×Bool×Int×Int×Int×Int)=>Qz l1 s.1 s.2.1 s.2.2.1 s.2.2.2.1 s.2.2.2.2.1 s.2.2.2.2.2.1 s.2.2.2.2.2.2.1 s.2.2.2.2.2.2.2.1 s.2.2.2.2.2.2.2.2.1 s.2.2.2.2.2.2.2.2.2.1 s.2.2.2.2.2.2.2.2.2.2.1 s.2.2.2.2.2.2.2.2.2.2.2) 0 r2.2 (false,false,0,0,false,false,false,false,0,0,0,0) else none
noncomputable def z2m (s1:(List Bs)) (v2:Bs):Option (Bool):=
 (uz s1 v2).bind fun r3=>some (decide (0≤r3))
noncomputable def xa (l1:(List Bs)):Option ((List Bs)):=
 (Yb l1).bind fun r2=>(kq r2).bind fun r4=>(xu r4).bind fun r6=>some r6
noncomputable def Qw (k7:Nat) (l6:(List Bs)):Option ((List Bs) ⊕ ((List Bs)×Bool×Int)):=
 (l6[k7]?).bind fun (x17:Bs)=>(xx x17).bind fun r19=>if !r19 then (some (.inr ([],false,9))) else ((vu x17).bind fun r22=>some (.inl (l6.set k7 r22)))
noncomputable def Zk (l6:(List Bs)):Option ((List Bs)×Bool×Int):=
 (z2m l6 [42]).bind fun r10=>if r10 then (some ([],true,0)) else ((xa l6).bind fun r13=>if decide (10 < (r13.length:Int)) then (some ([],false,2)) else (some (r13,false,0)))
noncomputable def xc (a1:ya):Option ((List Bs)×Bool×Int):=
 (vy a1.Headers [118,97,114,121]).bind fun r2=>(xw r2).bind fun r4=>if r4.length≤1000000000 then rng (fun (k:Nat) (s:(List Bs))=>Qw k s) (fun (s:(List Bs))=>Zk s) r4.length 0 r4 else none
noncomputable def xe (l1:(List zm)) (name2:Bs):Option (Bool):=
 (vy l1 name2).bind fun r3=>some (decide (0 < (r3.length:Int)))
noncomputable def z6i (method1:Bs):Option (Bool):=
 some ((decide (method1=[71,69,84])) || (decide (method1=[72,69,65,68])))
noncomputable def z8a (v2:Int) (k3:Nat) (x6:Int):Option (Unit ⊕ (Int)):=
 if decide (v2=x6) then (some (.inr (k3:Int))) else (some (.inl ()))
noncomputable def z8b:Option (Int):=
 some (-1)
noncomputable def z8w (s1:(List Int)) (v2:Int):Option (Int):=
 if s1.length≤1000000000 then forL (fun (k:Nat) (x:Int) (s:Unit)=>z8a v2 k x) (fun (s:Unit)=>z8b) 0 s1 () else none
noncomputable def z2n (s1:(List Int)) (v2:Int):Option (Bool):=
 (z8w s1 v2).bind fun r3=>some (decide (0≤r3))
noncomputable def z6j (status1:Int):Option (Bool):=
 (z2n [200,203,204,300,301,404,410] status1).bind fun r2=>some r2
noncomputable def xd (c1:zv):Option (Int):=
 if c1.NoCache then some 0 else (if decide (c1.Shared≠(-1)) then (some (wr (c1.Shared * 1000))) else (if decide (c1.MaxAge≠(-1)) then (some (wr (c1.MaxAge * 1000))) else some 0))
noncomputable def vd (v46:Bool):Option (Bool×Int):=
 some (v46,0)
noncomputable def z3h (v1:yv) (v2:ya):Option (Bool×Int):=
 (kr v1.Headers).bind fun r3=>if decide (r3.2≠0) then (some (false,r3.2)) else ((kr v2.Headers).bind fun r6=>if decide (r6.2≠0) then (some (false,r6.2)) else ((xc v2).bind fun r9=>if decide (r9.2.2≠0) then (some (false,r9.2.2)) else ((xe v1.Headers [97,117,116,104,111,114,105,122,97,116,105,111,110]).bind fun r12=>(z6i v1.Method).bind fun r14=>if r14 then ((z6j v2.Status).bind fun r18=>if r18 then (if !r3.1.NoStore then (if !r6.1.NoStore then (if !r6.1.Private then (if !(((r12 && (!r6.1.Public)) && (!r6.1.Must)) && (decide (r6.1.Shared=(-1)))) then (if !r9.2.1 then ((xd r6.1).bind fun r32=>if decide (0 < r32) then (vd true) else ((xe v2.Headers [101,116,97,103]).bind fun r36=>vd r36)) else (vd false)) else (vd false)) else (vd false)) else (vd false)) else (vd false)) else (vd false)) else (vd false))))
noncomputable def z0z (r1:yv) (a2:ya):Option (Bool×Int):=
 (Yd r1).bind fun r3=>if decide (r3≠0) then (some (false,r3)) else ((jt a2).bind fun r6=>if decide (r6≠0) then (some (false,r6)) else ((z3h r1 a2).bind fun r9=>some (r9.1,r9.2)))
noncomputable def xf (a1:ya):Option (Int×Int):=
 (jt a1).bind fun r2=>if decide (r2≠0) then (some (0,r2)) else ((kr a1.Headers).bind fun r5=>if decide (r5.2≠0) then (some (0,r5.2)) else ((xc a1).bind fun r8=>if decide (r8.2.2≠0) then (some (0,r8.2.2)) else ((xd r5.1).bind fun r11=>some (r11,0))))
noncomputable def Yi (a1:ya):Option ((List Bs)×Bool×Int):=
 (jt a1).bind fun r2=>if decide (r2≠0) then (some ([],false,r2)) else ((xc a1).bind fun r5=>some (r5.1,r5.2.1,r5.2.2))
noncomputable def z6n (i2:Nat) (x5:UInt8):Option (Unit ⊕ (Bool)):=
 if !(((decide (97≤(x5.toNat:Int))) && (decide ((x5.toNat:Int)≤122))) || ((decide (0 < (i2:Int))) && ((((decide (48≤(x5.toNat:Int))) && (decide ((x5.toNat:Int)≤57))) || (decide ((x5.toNat:Int)=45))) || (decide ((x5.toNat:Int)=95))))) then (some (.inr false)) else (some (.inl ()))
noncomputable def z85 (s1:Bs):Option (Bool):=
 some ((decide (s1≠[])) && (decide ((s1.length:Int)≤40)))
noncomputable def z0j (s1:Bs):Option (Bool):=
 if s1.length≤1000000000 then forL (fun (k:Nat) (x:UInt8) (s:Unit)=>z6n k x) (fun (s:Unit)=>z85 s1) 0 s1 () else none
noncomputable def Zb (r1:Int):Option (Bool):=
 some ((decide (r1=32)) || (decide (r1=44)))
noncomputable def Qx (l4:(List Bs)) (k9:Nat):Option (Unit ⊕ ((List Bs)×Int)):=
 (l4[k9]?).bind fun (x16:Bs)=>(z0j x16).bind fun r18=>if !r18 then (some (.inr ([],5))) else (some (.inl ()))
noncomputable def z4h (l4:(List Bs)):Option ((List Bs)×Int):=
 (xa l4).bind fun r12=>if decide (20 < (r12.length:Int)) then (some ([],2)) else (some (r12,0))
noncomputable def Qy (k5:Nat) (x8:Bs) (l4:(List Bs)):Option ((List Bs) ⊕ ((List Bs)×Int)):=
 (z0b x8 (fun (a0:Int)=>Zb a0)).bind fun r23=>if l4.length+r23.length≤1000000000 then (some (.inl (l4++r23))) else none
noncomputable def z1z (l4:(List Bs)):Option ((List Bs)×Int):=
 if l4.length≤1000000000 then rng (fun (k:Nat) (s:Unit)=>Qx l4 k) (fun (s:Unit)=>z4h l4) l4.length 0 () else none
noncomputable def z3g (a1:ya):Option ((List Bs)×Int):=
 (vy a1.Headers [99,97,99,104,101,45,116,97,103]).bind fun r2=>if r2.length≤1000000000 then forL (fun (k:Nat) (x:Bs) (s:(List Bs))=>Qy k x s) (fun (s:(List Bs))=>z1z s) 0 r2 [] else none
noncomputable def Yj (a1:ya):Option ((List Bs)×Int):=
 (jt a1).bind fun r2=>if decide (r2≠0) then (some ([],r2)) else ((z3g a1).bind fun r5=>some (r5.1,r5.2))
noncomputable def jf (n1:Int) (low2:Int) (high3:Int):Option (Bool):=
 some ((decide (low2≤n1)) && (decide (n1≤high3)))
noncomputable def z67 (some2:Bs) (k3:Nat) (x6:UInt8):Option (Unit ⊕ (Bool)):=
 (z57 some2 (x6.toNat:Int)).bind fun r9=>if decide (r9 < 0) then (some (.inr false)) else (some (.inl ()))
noncomputable def z9r:Option (Bool):=
 some true
noncomputable def ki (s1:Bs) (some2:Bs):Option (Bool):=
 if s1.length≤1000000000 then forL (fun (k:Nat) (x:UInt8) (s:Unit)=>z67 some2 k x) (fun (s:Unit)=>z9r) 0 s1 () else none
noncomputable def z1g (v9:Bool):Option (Bool):=
 some v9
noncomputable def xy (s1:Bs):Option (Bool):=
 (jf (s1.length:Int) 1 100).bind fun r2=>if r2 then ((ki s1 [97,98,99,100,101,102,103,104,105,106,107,108,109,110,111,112,113,114,115,116,117,118,119,120,121,122,65,66,67,68,69,70,71,72,73,74,75,76,77,78,79,80,81,82,83,84,85,86,87,88,89,90,48,49,50,51,52,53,54,55,56,57,33,35,36,37,38,39,42,43,45,46,94,95,96,124,126]).bind fun r6=>z1g r6) else (z1g false)
noncomputable def z4a (v12:Bool):Option (Unit ⊕ (Bool)):=
 if v12 then (some (.inr false)) else (some (.inl ()))
noncomputable def z9p (low2:Int) (k3:Nat) (x6:UInt8):Option (Unit ⊕ (Bool)):=
 if decide ((x6.toNat:Int) < low2) then (z4a true) else (z4a (decide (126 < (x6.toNat:Int))))
noncomputable def z9q:Option (Bool):=
 some true
noncomputable def z0k (s1:Bs) (low2:Int):Option (Bool):=
 if s1.length≤1000000000 then forL (fun (k:Nat) (x:UInt8) (s:Unit)=>z9p low2 k x) (fun (s:Unit)=>z9q) 0 s1 () else none
noncomputable def z1l (v12:Bool):Option (Bool):=
 some v12
noncomputable def z23 (s1:Bs):Option (Bool):=
 if decide ((s1.length:Int)≤2000) then ((z0k s1 32).bind fun r4=>if r4 then ((ux s1 [32]).bind fun r8=>z1l (decide (r8=s1))) else (z1l false)) else (z1l false)
noncomputable def z69 (k3:Nat) (x6:zm):Option (Unit ⊕ (Int)):=
 (xy x6.Name).bind fun r9=>if !r9 then (some (.inr 5)) else ((z23 x6.Value).bind fun r12=>if !r12 then (some (.inr 3)) else (some (.inl ())))
noncomputable def z7a:Option (Int):=
 some 0
noncomputable def z0r (l1:(List zm)):Option (Int):=
 if decide (50 < (l1.length:Int)) then some 2 else (if l1.length≤1000000000 then forL (fun (k:Nat) (x:zm) (s:Unit)=>z69 k x) (fun (s:Unit)=>z7a) 0 l1 () else none)
noncomputable def z0n (a1:ya):Option (Int):=
 (jf a1.Status 100 599).bind fun r2=>if !r2 then some 1 else ((z0r a1.Headers).bind fun r5=>if decide (r5≠0) then some r5 else (if decide (20000 < (a1.Body.length:Int)) then some 2 else some 0))
noncomputable def z6g (v1:Int):Option (Bool):=
 (jf v1 0 345686399999).bind fun r2=>some r2
noncomputable def z1i (r15:(Int×Int)) (v22:Bool):Option (Int×Bool):=
 some (r15.1,v22)
noncomputable def ks (s1:Bs) (v13:Bool):Option (Int×Bool):=
 if v13 then (some (0,false)) else ((uy s1).bind fun r15=>if decide (r15.2=0) then ((z6a r15.1).bind fun r19=>z1i r15 (decide (r19=s1))) else (z1i r15 false))
noncomputable def xz (s1:Bs) (most2:Int):Option (Int×Bool):=
 (z0a s1 [45]).bind fun r3=>if decide (r3=[]) then (ks s1 true) else (if decide (most2 < (r3.length:Int)) then (ks s1 true) else ((ki r3 [48,49,50,51,52,53,54,55,56,57]).bind fun r9=>ks s1 (!r9)))
noncomputable def z4b (v30:Bs):Option (Bs×Int):=
 some (v30,0)
noncomputable def xj (v45:Bool):Option (Unit ⊕ (Bs×Int)):=
 if v45 then (some (.inr ([],3))) else (some (.inl ()))
noncomputable def z1j (k21:Nat) (x24:Bs):Option (Unit ⊕ (Bs×Int)):=
 (jf (x24.length:Int) 1 63).bind fun r33=>if !r33 then (xj true) else ((ki x24 [97,98,99,100,101,102,103,104,105,106,107,108,109,110,111,112,113,114,115,116,117,118,119,120,121,122,65,66,67,68,69,70,71,72,73,74,75,76,77,78,79,80,81,82,83,84,85,86,87,88,89,90,48,49,50,51,52,53,54,55,56,57,45]).bind fun r37=>if !r37 then (xj true) else ((ux x24 [45]).bind fun r41=>xj (decide (r41≠x24))))
noncomputable def z1k (r2:(Bs×Bs×Bool)) (r4:(Int×Bool)):Option (Bs×Int):=
 (vu r2.1).bind fun r25=>if ((r2.2.2 && (decide (r4.1≠80))) && (decide (r4.1≠443))) then (if [58].length+r2.2.1.length≤1000000000 then (if r25.length+([58]++r2.2.1).length≤1000000000 then (z4b (r25++([58]++r2.2.1))) else none) else none) else (z4b r25)
noncomputable def xk (r2:(Bs×Bs×Bool)) (r4:(Int×Bool)) (v17:Bool):Option (Bs×Int):=
 if v17 then (some ([],3)) else ((kg r2.1 [46]).bind fun r19=>if r19.length≤1000000000 then forL (fun (k:Nat) (x:Bs) (s:Unit)=>z1j k x) (fun (s:Unit)=>z1k r2 r4) 0 r19 () else none)
noncomputable def z0q (v1:Bs):Option (Bs×Int):=
 (ky v1 [58]).bind fun r2=>(xz r2.2.1 5).bind fun r4=>if decide (255 < (v1.length:Int)) then (xk r2 r4 true) else (if r2.2.2 then (if !r4.2 then (xk r2 r4 true) else ((jf r4.1 1 65535).bind fun r12=>xk r2 r4 (!r12))) else (xk r2 r4 false))
noncomputable def Zf (v19:Bool):Option (Bool):=
 some v19
noncomputable def z2v (s1:Bs):Option (Bool):=
 (jf (s1.length:Int) 1 1000).bind fun r2=>if r2 then ((s1[0]?).bind fun (x6:UInt8)=>if decide ((x6.toNat:Int)=47) then ((z0k s1 33).bind fun r10=>if r10 then ((z0d s1 [63,35]).bind fun r14=>Zf (!r14)) else (Zf false)) else (Zf false)) else (Zf false)
noncomputable def Ys (v12:Bool):Option (Bool):=
 some v12
noncomputable def z2u (s1:Bs):Option (Bool):=
 if decide ((s1.length:Int)≤1000) then ((z0k s1 33).bind fun r4=>if r4 then ((z0e s1 [35]).bind fun r8=>Ys (!r8)) else (Ys false)) else (Ys false)
noncomputable def Yz (r1:yv) (v23:Bool):Option (Int):=
 if v23 then some 3 else ((z0r r1.Headers).bind fun r25=>if decide (r25≠0) then some r25 else (if decide (20000 < (r1.Body.length:Int)) then some 2 else some 0))
noncomputable def z0o (r1:yv):Option (Int):=
 (z6g r1.At).bind fun r2=>if !r2 then some 1 else ((xy r1.Method).bind fun r5=>if !r5 then some 5 else ((z0q r1.Host).bind fun r8=>if decide (r8.2≠0) then some r8.2 else ((z2v r1.Path).bind fun r11=>if !r11 then (Yz r1 true) else ((z2u r1.Query).bind fun r15=>if !r15 then (Yz r1 true) else ((z23 r1.From).bind fun r19=>Yz r1 (!r19))))))
noncomputable def Qr (k2:Nat) (x5:Int):Option (Unit ⊕ (Int)):=
 if decide (x5≠0) then (some (.inr x5)) else (some (.inl ()))
noncomputable def z7e:Option (Int):=
 some 0
noncomputable def z3f (l1:(List Int)):Option (Int):=
 if l1.length≤1000000000 then forL (fun (k:Nat) (x:Int) (s:Unit)=>Qr k x) (fun (s:Unit)=>z7e) 0 l1 () else none
noncomputable def z2w  : Option ((List Int)):=
 some ([6,7,8,9,10,11]:List Int)
noncomputable def z2x (a1:Bs) (b2:Bs):Option (Bool):=
 (vu a1).bind fun r3=>(vu b2).bind fun r5=>some (decide (r3=r5))
noncomputable def z1f (out14:(List Bs)):Option ((List Bs) ⊕ ((List Bs))):=
 some (.inl out14)
noncomputable def Yv (name2:Bs) (k4:Nat) (x7:zm) (l3:(List Bs)):Option ((List Bs) ⊕ ((List Bs))):=
 (z2x x7.Name name2).bind fun r10=>if r10 then (if l3.length+1≤1000000000 then (z1f (l3++[x7.Value])) else none) else (z1f l3)
noncomputable def z68 (l3:(List Bs)):Option ((List Bs)):=
 some l3
noncomputable def jo (l1:(List zm)) (name2:Bs):Option ((List Bs)):=
 if l1.length≤1000000000 then forL (fun (k:Nat) (x:zm) (s:(List Bs))=>Yv name2 k x s) (fun (s:(List Bs))=>z68 s) 0 l1 [] else none
noncomputable def z1d (out17:(List Bs)):Option ((List Bs) ⊕ ((List Bs))):=
 some (.inl out17)
noncomputable def Yt (k7:Nat) (x10:Bs) (l6:(List Bs)):Option ((List Bs) ⊕ ((List Bs))):=
 (ux x10 [32]).bind fun r13=>if decide (r13≠[]) then (if l6.length+1≤1000000000 then (z1d (l6++[r13])) else none) else (z1d l6)
noncomputable def z66 (l6:(List Bs)):Option ((List Bs)):=
 some l6
noncomputable def z0l (values1:(List Bs)):Option ((List Bs)):=
 (kh values1 [44]).bind fun r2=>(kg r2 [44]).bind fun r4=>if r4.length≤1000000000 then forL (fun (k:Nat) (x:Bs) (s:(List Bs))=>Yt k x s) (fun (s:(List Bs))=>z66 s) 0 r4 [] else none
noncomputable def z6e  : Option ((List Bs)):=
 some ([[110,111,45,115,116,111,114,101],[110,111,45,99,97,99,104,101],[112,114,105,118,97,116,101],[112,117,98,108,105,99],[109,117,115,116,45,114,101,118,97,108,105,100,97,116,101],[111,110,108,121,45,105,102,45,99,97,99,104,101,100]])
noncomputable def z6d  : Option ((List Int)):=
 some ([0,1,2,3,4,5]:List Int)
noncomputable def z6f  : Option ((List Bs)):=
 some ([[109,97,120,45,97,103,101],[115,45,109,97,120,97,103,101],[115,116,97,108,101,45,119,104,105,108,101,45,114,101,118,97,108,105,100,97,116,101],[115,116,97,108,101,45,105,102,45,101,114,114,111,114],[109,97,120,45,115,116,97,108,101],[109,105,110,45,102,114,101,115,104]])
noncomputable def Zh (c102:Bool) (c103:Bool) (c104:Bool) (c105:Bool) (c106:Bool) (c107:Bool) (c108:Int) (c109:Int) (c110:Int) (c111:Int) (c112:Int) (c113:Int):Option ((Bool×Bool×Int×Int×Bool×Bool×Bool×Bool×Int×Int×Int×Int) ⊕ (zv×Int)):=
 some (.inl (c102,c103,c112,c113,c104,c105,c106,c107,c108,c109,c110,c111))
noncomputable def Zg (r42:(Bs×Bs×Bool)) (r44:(Int×Bool)) (r61:(Bs)) (c76:Bool) (c77:Bool) (c78:Bool) (c79:Bool) (c80:Bool) (c81:Bool) (c82:Int) (c83:Int) (c84:Int) (c85:Int) (c86:Int) (c87:Int):Option ((Bool×Bool×Int×Int×Bool×Bool×Bool×Bool×Int×Int×Int×Int) ⊕ (zv×Int)):=
 (z6f ).bind fun r88=>(uz r88 r61).bind fun r90=>if decide (0≤r90) then (if !r42.2.2 then (some (.inr ((zv.mk false false false false false false 0 0 0 0 0 0),9))) else ((z2w).bind fun r94=>(at? r94 r90).bind fun (x96:Int)=>if jy x96=true then (if ((decide ((wg (zv.mk c76 c77 c78 c79 c80 c81 c82 c83 c84 c85 c86 c87) x96) < 0)) || (decide (r44.1 < (wg (zv.mk c76 c77 c78 c79 c80 c81 c82 c83 c84 c85 c86 c87) x96)))) then ((some (ke (zv.mk c76 c77 c78 c79 c80 c81 c82 c83 c84 c85 c86 c87) x96 r44.1)).bind fun (c100:zv)=>Zh c100.NoStore c100.NoCache c100.Private c100.Public c100.Must c100.Only c100.MaxAge c100.Shared c100.Stale c100.OnError c100.MaxStale c100.MinFresh) else (Zh c76 c77 c78 c79 c80 c81 c82 c83 c84 c85 c86 c87)) else none)) else (Zh c76 c77 c78 c79 c80 c81 c82 c83 c84 c85 c86 c87)
noncomputable def ue (c24:Bool) (c25:Bool) (c26:Int) (c27:Int) (c28:Bool) (c29:Bool) (c30:Bool) (c31:Bool) (c32:Int) (c33:Int) (c34:Int) (c35:Int) (r42:(Bs×Bs×Bool)) (r44:(Int×Bool)) (v59:Bool):Option ((Bool×Bool×Int×Int×Bool×Bool×Bool×Bool×Int×Int×Int×Int) ⊕ (zv×Int)):=
 if v59 then (some (.inr ((zv.mk false false false false false false 0 0 0 0 0 0),9))) else ((vu r42.1).bind fun r61=>(z6e ).bind fun r63=>(uz r63 r61).bind fun r65=>if decide (0≤r65) then ((z6d).bind fun r68=>(at? r68 r65).bind fun (x70:Int)=>if z4g x70=true then ((some (jd (zv.mk c24 c25 c28 c29 c30 c31 c32 c33 c34 c35 c26 c27) x70 true)).bind fun (c73:zv)=>if r42.2.2 then (some (.inr ((zv.mk false false false false false false 0 0 0 0 0 0),9))) else (Zg r42 r44 r61 c73.NoStore c73.NoCache c73.Private c73.Public c73.Must c73.Only c73.MaxAge c73.Shared c73.Stale c73.OnError c73.MaxStale c73.MinFresh)) else none) else (Zg r42 r44 r61 c24 c25 c28 c29 c30 c31 c32 c33 c34 c35 c26 c27))
noncomputable def z1m (k36:Nat) (x39:Bs) (c24:Bool) (c25:Bool) (c26:Int) (c27:Int) (c28:Bool) (c29:Bool) (c30:Bool) (c31:Bool) (c32:Int) (c33:Int) (c34:Int) (c35:Int):Option ((Bool×Bool×Int×Int×Bool×Bool×Bool×Bool×Int×Int×Int×Int) ⊕ (zv×Int)):=
 (ky x39 [61]).bind fun r42=>(xz r42.2.1 9).bind fun r44=>(xy r42.1).bind fun r46=>if !r46 then (ue c24 c25 c26 c27 c28 c29 c30 c31 c32 c33 c34 c35 r42 r44 true) else (if r42.2.2 then (if !r44.2 then (ue c24 c25 c26 c27 c28 c29 c30 c31 c32 c33 c34 c35 r42 r44 true) else ((jf r44.1 0 100000000).bind fun r54=>ue c24 c25 c26 c27 c28 c29 c30 c31 c32 c33 c34 c35 r42 r44 (!r54))) else (ue c24 c25 c26 c27 c28 c29 c30 c31 c32 c33 c34 c35 r42 r44 false))
noncomputable def z7b (c24:Bool) (c25:Bool) (c26:Int) (c27:Int) (c28:Bool) (c29:Bool) (c30:Bool) (c31:Bool) (c32:Int) (c33:Int) (c34:Int) (c35:Int):Option (zv×Int):=
 some ((zv.mk c24 c25 c28 c29 c30 c31 c32 c33 c34 c35 c26 c27),0)
noncomputable def z9s (k16:Nat) (x19:Int) (c4:Bool) (c5:Bool) (c6:Int) (c7:Int) (c8:Bool) (c9:Bool) (c10:Bool) (c11:Bool) (c12:Int) (c13:Int) (c14:Int) (c15:Int):Option ((Bool×Bool×Int×Int×Bool×Bool×Bool×Bool×Int×Int×Int×Int) ⊕ (zv×Int)):=
 if jy x19=true then ((some (ke (zv.mk c4 c5 c8 c9 c10 c11 c12 c13 c14 c15 c6 c7) x19 (-1))).bind fun (c117:zv)=>some (.inl (c117.NoStore,c117.NoCache,c117.MaxStale,c117.MinFresh,c117.Private,c117.Public,c117.Must,c117.Only,c117.MaxAge,c117.Shared,c117.Stale,c117.OnError))) else none
noncomputable def z4c (v1:(List zm)) (c4:Bool) (c5:Bool) (c6:Int) (c7:Int) (c8:Bool) (c9:Bool) (c10:Bool) (c11:Bool) (c12:Int) (c13:Int) (c14:Int) (c15:Int):Option (zv×Int):=
 (jo v1 [99,97,99,104,101,45,99,111,110,116,114,111,108]).bind fun r20=>(z0l r20).bind fun r22=>if r22.length≤1000000000 then forL (fun (k:Nat) (x:Bs) (s:Bool×Bool×Int×Int×Bool×Bool×Bool×Bool×Int×Int×Int×Int)=>z1m k x s.1 s.2.1 s.2.2.1 s.2.2.2.1 s.2.2.2.2.1 s.2.2.2.2.2.1 s.2.2.2.2.2.2.1 s.2.2.2.2.2.2.2.1 s.2.2.2.2.2.2.2.2.1 s.2.2.2.2.2.2.2.2.2.1 s.2.2.2.2.2.2.2.2.2.2.1 s.2.2.2.2.2.2.2.2.2.2.2) (fun (s:Bool×Bool×Int×Int×Bool×Bool×Bool×Bool×Int×Int×Int×Int)=>z7b s.1 s.2.1 s.2.2.1 s.2.2.2.1 s.2.2.2.2.1 s.2.2.2.2.2.1 s.2.2.2.2.2.2.1 s.2.2.2.2.2.2.2.1 s.2.2.2.2.2.2.2.2.1 s.2.2.2.2.2.2.2.2.2.1 s.2.2.2.2.2.2.2.2.2.2.1 s.2.2.2.2.2.2.2.2.2.2.2) 0 r22 (c4,c5,c6,c7,c8,c9,c10,c11,c12,c13,c14,c15) else none
noncomputable def Za (v1:(List zm)):Option (zv×Int):=
 (z2w).bind fun r2=>if r2.length≤1000000000 then forL (fun (k:Nat) (x:Int) (s:Bool×Bool×Int×Int×Bool×Bool×Bool×Bool×Int×Int×Int×Int)=>z9s k x s.1 s.2.1 s.2.2.1 s.2.2.2.1 s.2.2.2.2.1 s.2.2.2.2.2.1 s.2.2.2.2.2.2.1 s.2.2.2.2.2.2.2.1 s.2.2.2.2.2.2.2.2.1 s.2.2.2.2.2.2.2.2.2.1 s.2.2.2.2.2.2.2.2.2.2.1 s.2.2.2.2.2.2.2.2.2.2.2) (fun (s:Bool×Bool×Int×Int×Bool×Bool×Bool×Bool×Int×Int×Int×Int)=>z4c v1 s.1 s.2.1 s.2.2.1 s.2.2.2.1 s.2.2.2.2.1 s.2.2.2.2.2.1 s.2.2.2.2.2.2.1 s.2.2.2.2.2.2.2.1 s.2.2.2.2.2.2.2.2.1 s.2.2.2.2.2.2.2.2.2.1 s.2.2.2.2.2.2.2.2.2.2.1 s.2.2.2.2.2.2.2.2.2.2.2) 0 r2 (false,false,0,0,false,false,false,false,0,0,0,0) else none
noncomputable def Yu (k8:Nat) (x11:Bs) (all6:Bool) (l7:(List Bs)):Option ((Bool×(List Bs)) ⊕ ((List Bs)×Bool×Int)):=
 (xy x11).bind fun r20=>if !r20 then (some (.inr ([],false,9))) else ((vu x11).bind fun r23=>if l7.length+1≤1000000000 then (some (.inl ((all6 || (decide (x11=[42]))),(l7++[r23])))) else none)
noncomputable def z1e (all6:Bool) (l7:(List Bs)):Option ((List Bs)×Bool×Int):=
 if all6 then (some ([],true,0)) else ((kq l7).bind fun r13=>(xu r13).bind fun r15=>if decide (10 < (r15.length:Int)) then (some ([],false,2)) else (some (r15,false,0)))
noncomputable def Yf (a1:ya):Option ((List Bs)×Bool×Int):=
 (jo a1.Headers [118,97,114,121]).bind fun r2=>(z0l r2).bind fun r4=>if r4.length≤1000000000 then forL (fun (k:Nat) (x:Bs) (s:Bool×(List Bs))=>Yu k x s.1 s.2) (fun (s:Bool×(List Bs))=>z1e s.1 s.2) 0 r4 (false,[]) else none
noncomputable def z0m (c1:zv):Option (Int):=
 if c1.NoCache then some 0 else (if decide (0≤c1.Shared) then (some (wr (1000 * c1.Shared))) else (some (max 0 (wr (1000 * c1.MaxAge)))))
noncomputable def z1h (v28:Bool):Option (Bool×Int):=
 some (v28,0)
noncomputable def Yy (v1:yv) (v2:ya) (r3:(zv×Int)) (r6:(zv×Int)) (r9:((List Bs)×Bool×Int)) (v15:Bool):Option (Bool×Int):=
 if v15 then (some (false,0)) else (if (((r3.1.NoStore || r6.1.NoStore) || r6.1.Private) || r9.2.1) then (some (false,0)) else ((jo v1.Headers [97,117,116,104,111,114,105,122,97,116,105,111,110]).bind fun r18=>if ((((decide (0 < (r18.length:Int))) && (!r6.1.Public)) && (!r6.1.Must)) && (decide (r6.1.Shared < 0))) then (some (false,0)) else ((z0m r6.1).bind fun r21=>if decide (0 < r21) then (z1h true) else ((jo v2.Headers [101,116,97,103]).bind fun r25=>z1h (decide (0 < (r25.length:Int)))))))
noncomputable def z2z (v1:yv) (v2:ya):Option (Bool×Int):=
 (Za v1.Headers).bind fun r3=>if decide (r3.2≠0) then (some (false,r3.2)) else ((Za v2.Headers).bind fun r6=>if decide (r6.2≠0) then (some (false,r6.2)) else ((Yf v2).bind fun r9=>if decide (r9.2.2≠0) then (some (false,r9.2.2)) else (if ((decide (v1.Method≠[71,69,84])) && (decide (v1.Method≠[72,69,65,68]))) then (Yy v1 v2 r3 r6 r9 ((decide (v1.Method≠[71,69,84])) && (decide (v1.Method≠[72,69,65,68])))) else ((z2n [200,203,204,300,301,404,410] v2.Status).bind fun r13=>Yy v1 v2 r3 r6 r9 (!r13)))))
noncomputable def z22 (a1:ya):Option (Int×Int):=
 (Za a1.Headers).bind fun r2=>if decide (r2.2≠0) then (some (0,r2.2)) else ((Yf a1).bind fun r5=>if decide (r5.2.2≠0) then (some (0,r5.2.2)) else ((z0m r2.1).bind fun r8=>some (r8,0)))
noncomputable def Qa (v16:Bool):Option (Bool):=
 some v16
noncomputable def z0p (s1:Bs):Option (Bool):=
 (jf (s1.length:Int) 1 40).bind fun r2=>if r2 then ((sub? s1 0 1).bind fun (l6:Bs)=>(ki l6 [97,98,99,100,101,102,103,104,105,106,107,108,109,110,111,112,113,114,115,116,117,118,119,120,121,122]).bind fun r8=>if r8 then ((ki s1 [97,98,99,100,101,102,103,104,105,106,107,108,109,110,111,112,113,114,115,116,117,118,119,120,121,122,48,49,50,51,52,53,54,55,56,57,45,95]).bind fun r12=>Qa r12) else (Qa false)) else (Qa false)
noncomputable def Yw (k11:Nat) (x14:Bs) (l10:(List Bs)):Option ((List Bs) ⊕ ((List Bs)×Int)):=
 (z0p x14).bind fun r22=>if !r22 then (some (.inr ([],5))) else (if l10.length+1≤1000000000 then (some (.inl (l10++[x14]))) else none)
noncomputable def Yx (l10:(List Bs)):Option ((List Bs)×Int):=
 (kq l10).bind fun r15=>(xu r15).bind fun r17=>if decide (20 < (r17.length:Int)) then (some ([],2)) else (some (r17,0))
noncomputable def z2y (a1:ya):Option ((List Bs)×Int):=
 (jo a1.Headers [99,97,99,104,101,45,116,97,103]).bind fun r2=>(kh r2 [32]).bind fun r4=>(z56 r4 [44] [32]).bind fun r6=>(z0c r6).bind fun r8=>if r8.length≤1000000000 then forL (fun (k:Nat) (x:Bs) (s:(List Bs))=>Yw k x s) (fun (s:(List Bs))=>Yx s) 0 r8 [] else none
noncomputable def z5i (s2:(List Bs)) (k4:Nat) (x7:Bs):Option (Unit ⊕ (Bool)):=
 (s2[k4]?).bind fun (x10:Bs)=>if decide (x7≠x10) then (some (.inr false)) else (some (.inl ()))
noncomputable def z8c:Option (Bool):=
 some true
noncomputable def Ya (s1:(List Bs)) (s2:(List Bs)):Option (Bool):=
 if decide ((s1.length:Int)≠(s2.length:Int)) then some false else (if s1.length≤1000000000 then forL (fun (k:Nat) (x:Bs) (s:Unit)=>z5i s2 k x) (fun (s:Unit)=>z8c) 0 s1 () else none)
noncomputable def z0x  : Option (Bool):=
 (xf (ya.mk 200 ([(zm.mk [99,97,99,104,101,45,99,111,110,116,114,111,108] [109,97,120,45,97,103,101,61,50])]) [])).bind fun r1=>some ((decide (r1.2=0)) && (decide (r1.1=2000)))
noncomputable def kk (v85:Bool):Option (Bool):=
 some v85
noncomputable def Qs (r26:(Int×Int)) (r28:((List Bs)×Bool×Int)) (r30:((List Bs)×Int)) (v51:Int) (v52:Bool) (v53:(List Bs)) (v54:(List Bs)) (v55:Int) (v56:Int) (v57:Int):Option (Bool):=
 if decide (r26.2=v55) then (if decide (r26.1=v51) then (if decide (r28.2.2=v56) then (if (r28.2.1 == v52) then ((Ya r28.1 v53).bind fun r66=>if r66 then (if decide (r30.2=v57) then ((Ya r30.1 v54).bind fun r72=>if r72 then ((z0x ).bind fun r76=>kk r76) else (kk false)) else (kk false)) else (kk false)) else (kk false)) else (kk false)) else (kk false)) else (kk false)
noncomputable def Zj (c13:Int) (c14:(List zm)) (c15:Bs) (r24:(Bool×Int)) (r26:(Int×Int)) (r28:((List Bs)×Bool×Int)) (r30:((List Bs)×Int)) (r32:(Int)) (v41:Int) (v42:Bool):Option (Bool):=
 if ((decide (r24.2≠v41)) || (r24.1 != v42)) then some false else (if decide (r32=0) then ((z22 (ya.mk c13 c14 c15)).bind fun r45=>(Yf (ya.mk c13 c14 c15)).bind fun r47=>(z2y (ya.mk c13 c14 c15)).bind fun r49=>Qs r26 r28 r30 r45.1 r47.2.1 r47.1 r49.1 r45.2 r47.2.2 r49.2) else (Qs r26 r28 r30 0 false [] [] r32 r32 r32))
noncomputable def Qt (c13:Int) (c14:(List zm)) (c15:Bs) (c16:Int) (c17:Bs) (c18:Bs) (c19:Bs) (c20:Bs) (c21:Bs) (c22:(List zm)) (c23:Bs):Option (Bool):=
 (z0z (yv.mk c16 c17 c18 c19 c20 c21 c22 c23) (ya.mk c13 c14 c15)).bind fun r24=>(xf (ya.mk c13 c14 c15)).bind fun r26=>(Yi (ya.mk c13 c14 c15)).bind fun r28=>(Yj (ya.mk c13 c14 c15)).bind fun r30=>(z0n (ya.mk c13 c14 c15)).bind fun r32=>(z0o (yv.mk c16 c17 c18 c19 c20 c21 c22 c23)).bind fun r34=>(z3f [r34,r32]).bind fun r36=>if decide (r36=0) then ((z2z (yv.mk c16 c17 c18 c19 c20 c21 c22 c23) (ya.mk c13 c14 c15)).bind fun r39=>Zj c13 c14 c15 r24 r26 r28 r30 r32 r39.2 r39.1) else (Zj c13 c14 c15 r24 r26 r28 r30 r32 r36 false)
noncomputable def z6h (v1:(List Int)):Option (Bool):=
 (z3d (zh.mk v1 0) 0).bind fun r2=>(z3c r2.2).bind fun r4=>(qz r4.2 10).bind fun r6=>if r6.1 then ((z28 r6.2).bind fun r9=>(z27 r9.2).bind fun r11=>Qt r11.1.Status r11.1.Headers r11.1.Body r9.1.At r9.1.Method r9.1.Host r9.1.Path r9.1.Query r9.1.From r9.1.Headers r9.1.Body) else (Qt r4.1.Status r4.1.Headers r4.1.Body r2.1.At r2.1.Method r2.1.Host r2.1.Path r2.1.Query r2.1.From r2.1.Headers r2.1.Body)
end Go.Proofs.YtkldmhhbbceaoaaGreatDoor
