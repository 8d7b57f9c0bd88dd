/- Plain models of functions. Printed by a program. -/
import Derived.Test.YtahcnngcpjkpgabGreatDoorMc
import Derived.Test.YtahcnngcpjkpgabGreatDoorFld
import Derived.Test.YtahcnngcpjkpgabGreatDoorRng
import Derived.Test.YtahcnngcpjkpgabGreatDoorMk
namespace Go.Proofs.YtahcnngcpjkpgabGreatDoor
set_option linter.unusedVariables false
set_option maxRecDepth 20000
structure zu where
 L:(List Int)
 at_:Int
structure zg where
 Name:Bs
 Value:Bs
structure yb where
 Status:Int
 Headers:(List zg)
 Body:Bs
structure zw where
 At:Int
 Method:Bs
 Host:Bs
 Path:Bs
 Query:Bs
 From:Bs
 Headers:(List zg)
 Body:Bs
structure jc where
 first_:Bs
 headers_:(List zg)
 at_:Int
structure zp where
 Name:Bs
 Value:Bs
structure jd where
 Key:Bs
 Weight:Int
structure yh where
 NoStore:Bool
 NoCache:Bool
 Private:Bool
 Public:Bool
 Must:Bool
 Only:Bool
 MaxAge:Int
 Shared:Int
 Stale:Int
 OnError:Int
 MaxStale:Int
 MinFresh:Int
structure uj where
 Request:zw
 Response:yb
 At:Int
 Tags:(List Bs)
 Used:Int
structure wx where
 Entry:uj
 own_:zw
structure v2g where
 most_:Int
 size_:Int
 now_:Int
 list_:(List (Option wx))
def y0v (x:Int):Bool:=decide (x=0) || decide (x=1) || decide (x=2) || decide (x=3) || decide (x=4) || decide (x=5)
def um (c:yh) (x:Int) (y:Bool):yh:=if x=0 then yh.mk y c.NoCache c.Private c.Public c.Must c.Only c.MaxAge c.Shared c.Stale c.OnError c.MaxStale c.MinFresh else if x=1 then yh.mk c.NoStore y c.Private c.Public c.Must c.Only c.MaxAge c.Shared c.Stale c.OnError c.MaxStale c.MinFresh else if x=2 then yh.mk c.NoStore c.NoCache y c.Public c.Must c.Only c.MaxAge c.Shared c.Stale c.OnError c.MaxStale c.MinFresh else if x=3 then yh.mk c.NoStore c.NoCache c.Private y c.Must c.Only c.MaxAge c.Shared c.Stale c.OnError c.MaxStale c.MinFresh else if x=4 then yh.mk c.NoStore c.NoCache c.Private c.Public y c.Only c.MaxAge c.Shared c.Stale c.OnError c.MaxStale c.MinFresh else if x=5 then yh.mk c.NoStore c.NoCache c.Private c.Public c.Must y c.MaxAge c.Shared c.Stale c.OnError c.MaxStale c.MinFresh else c
def xn (x:Int):Bool:=decide (x=6) || decide (x=7) || decide (x=8) || decide (x=9) || decide (x=10) || decide (x=11)
def jz (c:yh) (x:Int):Int:=if x=6 then c.MaxAge else if x=7 then c.Shared else if x=8 then c.Stale else if x=9 then c.OnError else if x=10 then c.MaxStale else if x=11 then c.MinFresh else 0
def xw (c:yh) (x:Int) (y:Int):yh:=if x=6 then yh.mk c.NoStore c.NoCache c.Private c.Public c.Must c.Only y c.Shared c.Stale c.OnError c.MaxStale c.MinFresh else if x=7 then yh.mk c.NoStore c.NoCache c.Private c.Public c.Must c.Only c.MaxAge y c.Stale c.OnError c.MaxStale c.MinFresh else if x=8 then yh.mk c.NoStore c.NoCache c.Private c.Public c.Must c.Only c.MaxAge c.Shared y c.OnError c.MaxStale c.MinFresh else if x=9 then yh.mk c.NoStore c.NoCache c.Private c.Public c.Must c.Only c.MaxAge c.Shared c.Stale y c.MaxStale c.MinFresh else if x=10 then yh.mk c.NoStore c.NoCache c.Private c.Public c.Must c.Only c.MaxAge c.Shared c.Stale c.OnError y c.MinFresh else if x=11 then yh.mk c.NoStore c.NoCache c.Private c.Public c.Must c.Only c.MaxAge c.Shared c.Stale c.OnError c.MaxStale y else c
noncomputable def z60 (x6:Int):Option (Int):=
 some x6
noncomputable def z2t (x1:Int) (n2:Int):Option (Int):=
 if decide (n2 < 1) then some 0 else (if n2≠0 then (if decide ((Int.tmod x1 n2) < 0) then (z60 (wr ((Int.tmod x1 n2)+n2))) else (z60 (Int.tmod x1 n2))) else none)
noncomputable def Zw (s1:zu) (n2:Int):Option (Int×zu):=
 if decide ((s1.L.length:Int)=0) then ((z2t (wr ((wr (s1.at_+1)) * 7919)) n2).bind fun r4=>some (r4,(zu.mk s1.L (wr (s1.at_+1))))) else (if (s1.L.length:Int)≠0 then (if ((0:Int)≤(wr ((wr (s1.at_+1)) - 1))∧(wr ((wr (s1.at_+1)) - 1))≤9223372036854775807)∧(0:Int) < (s1.L.length:Int) then ((at? s1.L (Int.tmod (wr ((wr (s1.at_+1)) - 1)) (s1.L.length:Int))).bind fun (x8:Int)=>(z2t x8 1073741824).bind fun r10=>(z2t (wr (r10+(wr (((wr ((wr (s1.at_+1)) - 1)) / (s1.L.length:Int)) * (wr (7919+(Int.tmod (wr ((wr (s1.at_+1)) - 1)) (s1.L.length:Int)))))))) n2).bind fun r12=>some (r12,(zu.mk s1.L (wr (s1.at_+1))))) else none) else none)
noncomputable def z2s (s1:zu) (l2:(List Int)):Option (Int×zu):=
 (Zw s1 (l2.length:Int)).bind fun r3=>(at? l2 r3.1).bind fun (x5:Int)=>some (x5,r3.2)
noncomputable def vr (s1:zu) (l2:(List Bs)):Option (Bs×zu):=
 (Zw s1 (l2.length:Int)).bind fun r3=>(at? l2 r3.1).bind fun (x5:Bs)=>some (x5,r3.2)
noncomputable def jl (s1:zu) (n2:Int):Option (Bool×zu):=
 (Zw s1 n2).bind fun r3=>some (decide (r3.1=0),r3.2)
noncomputable def Qv (s1:zu) (low2:Int) (high3:Int):Option (Int×zu):=
 if decide (high3 < low2) then (some (low2,s1)) else ((Zw s1 (wr ((wr (high3 - low2))+1))).bind fun r5=>some (wr (low2+r5.1),r5.2))
noncomputable def z6v (l4:(List Bs)) (k8:Nat) (c5:(List Int)) (c6:Int) (l7:(List Bs)):Option (((List Int)×Int×(List Bs)) ⊕ (Bs×zu)):=
 (vr (zu.mk c5 c6) l4).bind fun r14=>if l7.length+1≤1000000000 then (some (.inl (r14.2.L,r14.2.at_,(l7++[r14.1])))) else none
noncomputable def z6w (between3:Bs) (c5:(List Int)) (c6:Int) (l7:(List Bs)):Option (Bs×zu):=
 (ji l7 between3).bind fun r11=>some (r11,(zu.mk c5 c6))
noncomputable def uo (s1:zu) (many2:Int) (between3:Bs) (l4:(List Bs)):Option (Bs×zu):=
 if many2≤1000000000 then rng (fun (k:Nat) (s:(List Int)×Int×(List Bs))=>z6v l4 k s.1 s.2.1 s.2.2) (fun (s:(List Int)×Int×(List Bs))=>z6w between3 s.1 s.2.1 s.2.2) many2.toNat 0 (s1.L,s1.at_,[]) else none
noncomputable def z6y (t19:Bs) (c20:(List Int)) (c21:Int):Option (Bs×zu):=
 some (t19,(zu.mk c20 c21))
noncomputable def z3f (t11:Bs) (c12:(List Int)) (c13:Int):Option (Bs×zu):=
 (jl (zu.mk c12 c13) 20).bind fun r14=>if r14.1 then ((vr r14.2 ([[109,97,120,45,97,103,101],[110,111,45,99,97,99,104,101,61,49],[109,97,120,45,97,103,101,61,45,49],[109,97,120,45,97,103,101,61,48,49],[109,97,120,45,97,103,101,61,49,48,48,48,48,48,48,48,49],[61,49],[97,32,98],[109,97,120,45,97,103,101,61,54,48,32,44,32,44,32,110,111,45,99,97,99,104,101]])).bind fun r17=>z6y r17.1 r17.2.L r17.2.at_) else (z6y t11 r14.2.L r14.2.at_)
noncomputable def z9f (s1:zu):Option (Bs×zu):=
 (Qv s1 0 3).bind fun r2=>(uo r2.2 r2.1 [44,32] ([[109,97,120,45,97,103,101,61,54,48],[109,97,120,45,97,103,101,61,54,48],[109,97,120,45,97,103,101,61,48],[109,97,120,45,97,103,101,61,49,48],[115,45,109,97,120,97,103,101,61,51,48],[110,111,45,99,97,99,104,101],[112,117,98,108,105,99],[109,117,115,116,45,114,101,118,97,108,105,100,97,116,101],[115,116,97,108,101,45,119,104,105,108,101,45,114,101,118,97,108,105,100,97,116,101,61,50,48],[115,116,97,108,101,45,105,102,45,101,114,114,111,114,61,49,48,48],[120,61,49],[121],[77,97,120,45,65,103,101,61,57,48]])).bind fun r4=>(jl r4.2 10).bind fun r6=>if r6.1 then ((uo r6.2 2 [44] ([[110,111,45,115,116,111,114,101],[112,114,105,118,97,116,101],[109,97,120,45,97,103,101,61,54,48],[111,110,108,121,45,105,102,45,99,97,99,104,101,100],[105,109,109,117,116,97,98,108,101]])).bind fun r9=>z3f r9.1 r9.2.L r9.2.at_) else (z3f r4.1 r6.2.L r6.2.at_)
noncomputable def Yo (name1:Bs) (value2:Bs) (c3:yb):Option (yb):=
 if c3.Headers.length+1≤1000000000 then (some (yb.mk c3.Status (c3.Headers++[(zg.mk name1 value2)]) c3.Body)) else none
noncomputable def z9e (s1:zu) (low2:Int) (high3:Int):Option (Int×zu):=
 (jl s1 12).bind fun r4=>if r4.1 then ((z2s r4.2 [wr (low2 - 1),wr (high3+1),low2,high3,(-1099511627776),1099511627776]).bind fun r7=>some (r7.1,r7.2)) else ((Qv r4.2 low2 high3).bind fun r9=>some (r9.1,r9.2))
noncomputable def z3g (l85:(List zg)) (c87:Bs) (c93:(List Int)) (c94:Int) (c95:Int):Option (yb×zu):=
 some ((yb.mk c95 l85 c87),(zu.mk c93 c94))
noncomputable def z3h (c83:(List Int)) (c84:Int) (l85:(List zg)) (c86:Int) (c87:Bs):Option (yb×zu):=
 (jl (zu.mk c83 c84) 40).bind fun r88=>if r88.1 then ((z9e r88.2 100 599).bind fun r91=>z3g l85 c87 r91.2.L r91.2.at_ r91.1) else (z3g l85 c87 r88.2.L r88.2.at_ c86)
noncomputable def z3i (c67:(List Int)) (c68:Int) (l69:(List zg)) (c70:Int) (c71:Bs):Option (yb×zu):=
 (jl (zu.mk c67 c68) 30).bind fun r72=>if r72.1 then ((vr r72.2 ([[118,97,114,121],[99,97,99,104,101,45,116,97,103]])).bind fun r75=>(uo r75.2 12 [44] ([[104,49],[104,50],[104,51],[104,52],[104,53],[104,54],[104,55],[104,56],[104,57],[104,97],[104,98],[104,99]])).bind fun r77=>(vr r77.2 ([[97,32,98],[65],[],r77.1])).bind fun r79=>(Yo r75.1 r79.1 (yb.mk c70 l69 c71)).bind fun r81=>z3h r79.2.L r79.2.at_ r81.Headers r81.Status r81.Body) else (z3h r72.2.L r72.2.at_ l69 c70 c71)
noncomputable def z3j (c55:(List Int)) (c56:Int) (l57:(List zg)) (c58:Int) (c59:Bs):Option (yb×zu):=
 (jl (zu.mk c55 c56) 6).bind fun r60=>if r60.1 then ((vr r60.2 ([[53],[53,48],[120],[45,49],[49,48,48,48,48,48,48,48,49]])).bind fun r63=>(Yo [97,103,101] r63.1 (yb.mk c58 l57 c59)).bind fun r65=>z3i r63.2.L r63.2.at_ r65.Headers r65.Status r65.Body) else (z3i r60.2.L r60.2.at_ l57 c58 c59)
noncomputable def z3k (c43:(List Int)) (c44:Int) (l45:(List zg)) (c46:Int) (c47:Bs):Option (yb×zu):=
 (jl (zu.mk c43 c44) 4).bind fun r48=>if r48.1 then ((vr r48.2 ([[114,101,100],[114,101,100,44,32,98,108,117,101],[98,108,117,101,32,103,114,101,101,110],[114,101,100,32,114,101,100]])).bind fun r51=>(Yo [99,97,99,104,101,45,116,97,103] r51.1 (yb.mk c46 l45 c47)).bind fun r53=>z3j r51.2.L r51.2.at_ r53.Headers r53.Status r53.Body) else (z3j r48.2.L r48.2.at_ l45 c46 c47)
noncomputable def z3l (c29:(List Int)) (c30:Int) (l31:(List zg)) (c32:Int) (c33:Bs):Option (yb×zu):=
 (jl (zu.mk c29 c30) 2).bind fun r34=>if r34.1 then ((vr r34.2 ([[101,116,97,103],[69,84,97,103]])).bind fun r37=>(vr r37.2 ([[34,118,49,34],[87,47,34,118,50,34],[118,51]])).bind fun r39=>(Yo r37.1 r39.1 (yb.mk c32 l31 c33)).bind fun r41=>z3k r39.2.L r39.2.at_ r41.Headers r41.Status r41.Body) else (z3k r34.2.L r34.2.at_ l31 c32 c33)
noncomputable def z3m (c17:(List Int)) (c18:Int) (l19:(List zg)) (c20:Int) (c21:Bs):Option (yb×zu):=
 (jl (zu.mk c17 c18) 3).bind fun r22=>if r22.1 then ((vr r22.2 ([[97,99,99,101,112,116,45,108,97,110,103,117,97,103,101],[65,99,99,101,112,116,45,76,97,110,103,117,97,103,101,44,32,120,45,111,110,101],[42],[],[120,45,111,110,101,44,88,45,79,110,101]])).bind fun r25=>(Yo [118,97,114,121] r25.1 (yb.mk c20 l19 c21)).bind fun r27=>z3l r25.2.L r25.2.at_ r27.Headers r27.Status r27.Body) else (z3l r22.2.L r22.2.at_ l19 c20 c21)
noncomputable def z9h (s1:zu):Option (yb×zu):=
 (z2s s1 [200,200,200,200,404,304,500,204,201]).bind fun r2=>(z2c [122] 50).bind fun r4=>(vr r2.2 ([[104,101,108,108,111],[120],[],r4])).bind fun r6=>(jl r6.2 6).bind fun r8=>if !r8.1 then ((vr r8.2 ([[99,97,99,104,101,45,99,111,110,116,114,111,108],[67,97,99,104,101,45,67,111,110,116,114,111,108]])).bind fun r11=>(z9f r11.2).bind fun r13=>(Yo r11.1 r13.1 (yb.mk r2.1 ([]:List zg) r6.1)).bind fun r15=>z3m r13.2.L r13.2.at_ r15.Headers r15.Status r15.Body) else (z3m r8.2.L r8.2.at_ ([]:List zg) r2.1 r6.1)
noncomputable def z6z (t11:Bs) (c12:(List Int)) (c13:Int):Option (Bs×zu):=
 some (t11,(zu.mk c12 c13))
noncomputable def z9j (s1:zu):Option (Bs×zu):=
 (Qv s1 1 2).bind fun r2=>(uo r2.2 r2.1 [44,32] ([[109,97,120,45,97,103,101,61,51,48],[109,97,120,45,97,103,101,61,48],[109,105,110,45,102,114,101,115,104,61,50,48],[109,97,120,45,115,116,97,108,101,61,49,53],[110,111,45,99,97,99,104,101],[111,110,108,121,45,105,102,45,99,97,99,104,101,100],[109,97,120,45,115,116,97,108,101,61,49,48,48,48],[110,111,45,115,116,111,114,101]])).bind fun r4=>(jl r4.2 20).bind fun r6=>if r6.1 then ((vr r6.2 ([[109,97,120,45,115,116,97,108,101],[109,105,110,45,102,114,101,115,104,61,120]])).bind fun r9=>z6z r9.1 r9.2.L r9.2.at_) else (z6z r4.1 r6.2.L r6.2.at_)
noncomputable def z9g (s1:zu) (t2:Bs) (v3:Bs):Option (Bs×zu):=
 if ((decide (t2=[])) || (decide (v3=[]))) then (some (v3,s1)) else ((Zw s1 (t2.length:Int)).bind fun r5=>(Zw r5.2 (v3.length:Int)).bind fun r7=>(at? v3 r7.1).bind fun (x9:UInt8)=>(Zw r7.2 3).bind fun r11=>if decide (r11.1=0) then ((sub? t2 0 r5.1).bind fun (l14:Bs)=>if l14.length+(encL (IntKind.wrap .i32 (x9.toNat:Int))).length≤1000000000 then ((sub? t2 (wr (r5.1+1)) (t2.length:Int)).bind fun (l17:Bs)=>if (l14++(encL (IntKind.wrap .i32 (x9.toNat:Int)))).length+l17.length≤1000000000 then (some (((l14++(encL (IntKind.wrap .i32 (x9.toNat:Int))))++l17),r11.2)) else none) else none) else (if decide (r11.1=1) then ((sub? t2 0 r5.1).bind fun (l21:Bs)=>if l21.length+(encL (IntKind.wrap .i32 (x9.toNat:Int))).length≤1000000000 then ((sub? t2 r5.1 (t2.length:Int)).bind fun (l24:Bs)=>if (l21++(encL (IntKind.wrap .i32 (x9.toNat:Int)))).length+l24.length≤1000000000 then (some (((l21++(encL (IntKind.wrap .i32 (x9.toNat:Int))))++l24),r11.2)) else none) else none) else ((sub? t2 0 r5.1).bind fun (l27:Bs)=>(sub? t2 (wr (r5.1+1)) (t2.length:Int)).bind fun (l29:Bs)=>if l27.length+l29.length≤1000000000 then (some ((l27++l29),r11.2)) else none)))
noncomputable def z6x (p23:Bs) (c24:(List Int)) (c25:Int):Option (Bs×zu):=
 some (p23,(zu.mk c24 c25))
noncomputable def z3e (p15:Bs) (c16:(List Int)) (c17:Int):Option (Bs×zu):=
 (jl (zu.mk c16 c17) 12).bind fun r18=>if r18.1 then ((z9g r18.2 p15 [47,46,37,50,102,65]).bind fun r21=>z6x r21.1 r21.2.L r21.2.at_) else (z6x p15 r18.2.L r18.2.at_)
noncomputable def z9d (s1:zu):Option (Bs×zu):=
 (Qv s1 0 4).bind fun r2=>(uo r2.2 r2.1 [47] ([[97],[98],[37,52,49],[37,50,102],[37,55,101],[46],[46,46],[],[120,59,121],[99,37,50,48,100],[37,99,51,37,97,52],[65],[97,46,98],[126]])).bind fun r4=>if [47].length+r4.1.length≤1000000000 then ((jl r4.2 12).bind fun r7=>if r7.1 then ((z2c [37,50,48] 340).bind fun r10=>if [47].length+r10.length≤1000000000 then ((vr r7.2 ([[],[97],[47,97,63,98],[47,97,35],[47,37],[47,37,52],[47,37,122,122],[47,127],[47,97,32,98],([47]++r10)])).bind fun r13=>z3e r13.1 r13.2.L r13.2.at_) else none) else (z3e ([47]++r4.1) r7.2.L r7.2.at_)) else none
noncomputable def z3d (q13:Bs) (c14:(List Int)) (c15:Int):Option (Bs×zu):=
 some (q13,(zu.mk c14 c15))
noncomputable def z2r (s1:zu):Option (Bs×zu):=
 (Qv s1 0 4).bind fun r2=>(uo r2.2 r2.1 [38] ([[97,61,49],[98,61,50],[97,61],[61,120],[61],[99],[],[97,61,37,52,49,43,37,50,66],[100,61,120,37,50,54,121],[98,61,37,99,51],[97,61,49,61,50],[97,63,98,61,47]])).bind fun r4=>(jl r4.2 12).bind fun r6=>if r6.1 then ((uo r6.2 101 [38] ([[120]])).bind fun r9=>(vr r9.2 ([[35],[97,37],[37,103,49,61,50],[97,32,98],[128],r9.1])).bind fun r11=>z3d r11.1 r11.2.L r11.2.at_) else (z3d r4.1 r6.2.L r6.2.at_)
noncomputable def z3n (v2:Int) (r3:(Bs×zu)) (r5:(Bs×zu)) (l46:(List zg)) (c54:(List Int)) (c55:Int) (c56:Bs) (c57:Bs):Option (zw×zu):=
 some ((zw.mk v2 r3.1 r5.1 c56 c57 [] l46 []),(zu.mk c54 c55))
noncomputable def z3o (v2:Int) (r3:(Bs×zu)) (r5:(Bs×zu)) (r7:(Bs×zu)) (r9:(Bs×zu)) (c44:(List Int)) (c45:Int) (l46:(List zg)):Option (zw×zu):=
 (jl (zu.mk c44 c45) 40).bind fun r47=>if r47.1 then ((z9d r47.2).bind fun r50=>(z2r r50.2).bind fun r52=>z3n v2 r3 r5 l46 r52.2.L r52.2.at_ r50.1 r52.1) else (z3n v2 r3 r5 l46 r47.2.L r47.2.at_ r7.1 r9.1)
noncomputable def z3p (v2:Int) (r3:(Bs×zu)) (r5:(Bs×zu)) (r7:(Bs×zu)) (r9:(Bs×zu)) (c35:(List Int)) (c36:Int) (l37:(List zg)):Option (zw×zu):=
 (jl (zu.mk c35 c36) 8).bind fun r38=>if r38.1 then ((vr r38.2 ([[34,118,49,34],[87,47,34,118,50,34,44,32,34,118,49,34],[42],[118,49]])).bind fun r41=>if l37.length+1≤1000000000 then (z3o v2 r3 r5 r7 r9 r41.2.L r41.2.at_ (l37++([(zg.mk [105,102,45,110,111,110,101,45,109,97,116,99,104] r41.1)]))) else none) else (z3o v2 r3 r5 r7 r9 r38.2.L r38.2.at_ l37)
noncomputable def z3q (v2:Int) (r3:(Bs×zu)) (r5:(Bs×zu)) (r7:(Bs×zu)) (r9:(Bs×zu)) (c28:(List Int)) (c29:Int) (l30:(List zg)):Option (zw×zu):=
 (jl (zu.mk c28 c29) 12).bind fun r31=>if r31.1 then (if l30.length+1≤1000000000 then (z3p v2 r3 r5 r7 r9 r31.2.L r31.2.at_ (l30++([(zg.mk [97,117,116,104,111,114,105,122,97,116,105,111,110] [66,101,97,114,101,114,32,120])]))) else none) else (z3p v2 r3 r5 r7 r9 r31.2.L r31.2.at_ l30)
noncomputable def z3r (v2:Int) (r3:(Bs×zu)) (r5:(Bs×zu)) (r7:(Bs×zu)) (r9:(Bs×zu)) (c19:(List Int)) (c20:Int) (l21:(List zg)):Option (zw×zu):=
 (jl (zu.mk c19 c20) 4).bind fun r22=>if r22.1 then ((z9j r22.2).bind fun r25=>if l21.length+1≤1000000000 then (z3q v2 r3 r5 r7 r9 r25.2.L r25.2.at_ (l21++([(zg.mk [99,97,99,104,101,45,99,111,110,116,114,111,108] r25.1)]))) else none) else (z3q v2 r3 r5 r7 r9 r22.2.L r22.2.at_ l21)
noncomputable def z9i (s1:zu) (v2:Int):Option (zw×zu):=
 (vr s1 ([[71,69,84],[71,69,84],[71,69,84],[71,69,84],[72,69,65,68],[80,79,83,84]])).bind fun r3=>(vr r3.2 ([[97,46,98],[97,46,98],[65,46,66,58,56,48],[99,46,100]])).bind fun r5=>(vr r5.2 ([[47,120],[47,120],[47,120,47,46,47],[47,37,55,56],[47,121]])).bind fun r7=>(vr r7.2 ([[],[],[98,61,50,38,97,61,49],[97,61,49,38,98,61,50]])).bind fun r9=>(jl r9.2 3).bind fun r11=>if r11.1 then ((vr r11.2 ([[97,99,99,101,112,116,45,108,97,110,103,117,97,103,101],[65,99,99,101,112,116,45,76,97,110,103,117,97,103,101]])).bind fun r14=>(vr r14.2 ([[100,101],[101,110]])).bind fun r16=>if ([]:List zg).length+1≤1000000000 then (z3r v2 r3 r5 r7 r9 r16.2.L r16.2.at_ (([]:List zg)++[(zg.mk r14.1 r16.1)])) else none) else (z3r v2 r3 r5 r7 r9 r11.2.L r11.2.at_ ([]:List zg))
noncomputable def Qu (n1:Int) (low2:Int) (high3:Int):Option (Bool):=
 some ((decide (n1 < low2)) || (decide (high3 < n1)))
noncomputable def z82 (c1:Int):Option (Bool):=
 some (((decide (97≤c1)) && (decide (c1≤122))) || ((decide (65≤c1)) && (decide (c1≤90))))
noncomputable def z5o (c1:Int):Option (Bool):=
 some ((decide (48≤c1)) && (decide (c1≤57)))
noncomputable def z4u (v14:Bool):Option (Bool):=
 some v14
noncomputable def z81 (c1:Int):Option (Bool):=
 (z82 c1).bind fun r2=>if r2 then (z4u true) else ((z5o c1).bind fun r6=>if r6 then (z4u true) else ((z2d [33,35,36,37,38,39,42,43,45,46,94,95,96,124,126] c1).bind fun r10=>z4u (decide (0≤r10))))
noncomputable def y2v (k2:Nat) (x5:UInt8):Option (Unit ⊕ (Bool)):=
 (z81 (x5.toNat:Int)).bind fun r8=>if !r8 then (some (.inr false)) else (some (.inl ()))
noncomputable def y7q (s1:Bs):Option (Bool):=
 some ((decide (s1≠[])) && (decide ((s1.length:Int)≤100)))
noncomputable def Ym (s1:Bs):Option (Bool):=
 if s1.length≤1000000000 then forL (fun (k:Nat) (x:UInt8) (s:Unit)=>y2v k x) (fun (s:Unit)=>y7q s1) 0 s1 () else none
noncomputable def z4v (v13:Bool):Option (Unit ⊕ (Bool)):=
 if v13 then (some (.inr false)) else (some (.inl ()))
noncomputable def y2q (low2:Int) (high3:Int) (k4:Nat) (x7:UInt8):Option (Unit ⊕ (Bool)):=
 if decide ((x7.toNat:Int) < low2) then (z4v true) else (z4v (decide (high3 < (x7.toNat:Int))))
noncomputable def y2r:Option (Bool):=
 some true
noncomputable def Yj (s1:Bs) (low2:Int) (high3:Int):Option (Bool):=
 if s1.length≤1000000000 then forL (fun (k:Nat) (x:UInt8) (s:Unit)=>y2q low2 high3 k x) (fun (s:Unit)=>y2r) 0 s1 () else none
noncomputable def z77 (s14:Bs):Option (Bs):=
 some s14
noncomputable def z1m (s3:Bs) (v10:Bool):Option (Bs ⊕ (Bs)):=
 if v10 then ((sub? s3 0 (wr ((s3.length:Int) - 1))).bind fun (l12:Bs)=>some (.inl l12)) else (Option.map .inr (z77 s3))
noncomputable def z74 (c2:Int) (s3:Bs):Option (Bs ⊕ (Bs)):=
 if decide (0 < (s3.length:Int)) then ((at? s3 (wr ((s3.length:Int) - 1))).bind fun (x7:UInt8)=>z1m s3 (decide ((x7.toNat:Int)=c2))) else (z1m s3 false)
noncomputable def z0f (s1:Bs) (c2:Int):Option (Bs):=
 iter (fun (s:Bs)=>z74 c2 s) s1
noncomputable def z79 (s14:Bs):Option (Bs):=
 some s14
noncomputable def z1n (s3:Bs) (v10:Bool):Option (Bs ⊕ (Bs)):=
 if v10 then ((sub? s3 1 (s3.length:Int)).bind fun (l12:Bs)=>some (.inl l12)) else (Option.map .inr (z79 s3))
noncomputable def z78 (c2:Int) (s3:Bs):Option (Bs ⊕ (Bs)):=
 if decide (0 < (s3.length:Int)) then ((s3[0]?).bind fun (x7:UInt8)=>z1n s3 (decide ((x7.toNat:Int)=c2))) else (z1n s3 false)
noncomputable def z2b (s1:Bs) (c2:Int):Option (Bs):=
 iter (fun (s:Bs)=>z78 c2 s) s1
noncomputable def z4e (s1:Bs) (cutset2:Bs) (v9:Bool):Option (Bs):=
 if v9 then ((cutset2[0]?).bind fun (x11:UInt8)=>(z0f s1 (x11.toNat:Int)).bind fun r13=>(z2b r13 (x11.toNat:Int)).bind fun r15=>some r15) else none
noncomputable def Zr (s1:Bs) (cutset2:Bs):Option (Bs):=
 if ((decide (s1=[])) || (decide (cutset2=[]))) then some s1 else (if decide ((cutset2.length:Int)=1) then ((cutset2[0]?).bind fun (x6:UInt8)=>z4e s1 cutset2 (decide ((x6.toNat:Int) < 128))) else (z4e s1 cutset2 false))
noncomputable def z2a (v12:Bool):Option (Bool):=
 some v12
noncomputable def z0q (s1:Bs):Option (Bool):=
 if decide ((s1.length:Int)≤2000) then ((Yj s1 32 126).bind fun r4=>if r4 then ((Zr s1 [32]).bind fun r8=>z2a (decide (r8=s1))) else (z2a false)) else (z2a false)
noncomputable def y2w (k3:Nat) (x6:zg):Option (Unit ⊕ (Int)):=
 (Ym x6.Name).bind fun r9=>if !r9 then (some (.inr 5)) else ((z0q x6.Value).bind fun r12=>if !r12 then (some (.inr 3)) else (some (.inl ())))
noncomputable def y2x:Option (Int):=
 some 0
noncomputable def z2l (l1:(List zg)):Option (Int):=
 if decide (50 < (l1.length:Int)) then some 2 else (if l1.length≤1000000000 then forL (fun (k:Nat) (x:zg) (s:Unit)=>y2w k x) (fun (s:Unit)=>y2x) 0 l1 () else none)
noncomputable def kl (a1:yb):Option (Int):=
 (Qu a1.Status 100 599).bind fun r2=>if r2 then some 1 else ((z2l a1.Headers).bind fun r5=>if decide (r5≠0) then some r5 else (if decide (20000 < (a1.Body.length:Int)) then some 2 else some 0))
noncomputable def kk (l1:(List Int)) (s2:Bs):Option (Int×Int×(List Int)):=
 if l1.length+s2.length≤1000000000 then (some ((s2.length:Int),0,(l1++yk s2))) else none
noncomputable def Qr (h1:zg) (name2:Bs):Option (Bool):=
 (z2e h1.Name name2).bind fun r3=>some r3
noncomputable def z4y (v9:Bool):Option (Bool):=
 some v9
noncomputable def z0l (h1:zg):Option (Bool):=
 (Qr h1 [99,111,110,116,101,110,116,45,108,101,110,103,116,104]).bind fun r2=>if r2 then (z4y true) else ((Qr h1 [116,114,97,110,115,102,101,114,45,101,110,99,111,100,105,110,103]).bind fun r6=>z4y r6)
noncomputable def z4z (l18:(List Int)):Option ((List Int) ⊕ ((List Int))):=
 some (.inl l18)
noncomputable def z12 (k4:Nat) (x7:zg) (l3:(List Int)):Option ((List Int) ⊕ ((List Int))):=
 (z0l x7).bind fun r10=>if !r10 then (if x7.Name.length+[58,32].length≤1000000000 then (if (x7.Name++[58,32]).length+x7.Value.length≤1000000000 then (if ((x7.Name++[58,32])++x7.Value).length+[13,10].length≤1000000000 then ((kk l3 (((x7.Name++[58,32])++x7.Value)++[13,10])).bind fun r16=>z4z r16.2.2) else none) else none) else none) else (z4z l3)
noncomputable def z41 (l3:(List Int)):Option ((List Int)):=
 some l3
noncomputable def z5p (l1:(List Int)) (l2:(List zg)):Option ((List Int)):=
 if l2.length≤1000000000 then forL (fun (k:Nat) (x:zg) (s:(List Int))=>z12 k x s) (fun (s:(List Int))=>z41 s) 0 l2 l1 else none
noncomputable def z13 (a1:yb) (reason6:Bs):Option (Bs×Int):=
 (xz a1.Status).bind fun r7=>if [72,84,84,80,47,49,46,49,32].length+r7.length≤1000000000 then (if ([72,84,84,80,47,49,46,49,32]++r7).length+[32].length≤1000000000 then (if (([72,84,84,80,47,49,46,49,32]++r7)++[32]).length+reason6.length≤1000000000 then (if ((([72,84,84,80,47,49,46,49,32]++r7)++[32])++reason6).length+[13,10].length≤1000000000 then ((kk ([]:List Int) (((([72,84,84,80,47,49,46,49,32]++r7)++[32])++reason6)++[13,10])).bind fun r13=>(z5p r13.2.2 a1.Headers).bind fun r15=>(xz (a1.Body.length:Int)).bind fun r17=>if [99,111,110,116,101,110,116,45,108,101,110,103,116,104,58,32].length+r17.length≤1000000000 then (if ([99,111,110,116,101,110,116,45,108,101,110,103,116,104,58,32]++r17).length+[13,10].length≤1000000000 then (if (([99,111,110,116,101,110,116,45,108,101,110,103,116,104,58,32]++r17)++[13,10]).length+[13,10].length≤1000000000 then (if ((([99,111,110,116,101,110,116,45,108,101,110,103,116,104,58,32]++r17)++[13,10])++[13,10]).length+a1.Body.length≤1000000000 then ((kk r15 (((([99,111,110,116,101,110,116,45,108,101,110,103,116,104,58,32]++r17)++[13,10])++[13,10])++a1.Body)).bind fun r23=>if byR r23.2.2=true then (some ((strN r23.2.2),0)) else none) else none) else none) else none) else none) else none) else none) else none) else none
noncomputable def z0o (a1:yb):Option (Bs×Int):=
 (kl a1).bind fun r2=>if decide (r2≠0) then (some ([],r2)) else (if decide (a1.Status=200) then (z13 a1 [79,75]) else (z13 a1 [45]))
noncomputable def z4r (v2:Int) (l31:(List zg)) (c32:Bs) (c33:Int):Option ((Int×(List zg)×Bs×Int) ⊕ (jc×Bool)):=
 some (.inl (wr (v2+1),l31,c32,c33))
noncomputable def z1v (v2:Int) (l3:(List zg)) (c4:Bs) (c5:Int) (r9:(Bs×Bs×Bool)) (r14:(Bs×Bs×Bool)) (r16:(Bs)) (v28:Bool):Option ((Int×(List zg)×Bs×Int) ⊕ (jc×Bool)):=
 if v28 then (some (.inr ((jc.mk c4 l3 (wr (c5+(wr ((r9.1.length:Int)+2))))),false))) else (if l3.length+1≤1000000000 then (z4r v2 (l3++[(zg.mk r14.1 r16)]) c4 (wr (c5+(wr ((r9.1.length:Int)+2))))) else none)
noncomputable def ud (v1:Bs) (v2:Int) (l3:(List zg)) (c4:Bs) (c5:Int):Option ((Int×(List zg)×Bs×Int) ⊕ (jc×Bool)):=
 (sub? v1 c5 (v1.length:Int)).bind fun (l7:Bs)=>(vq l7 [13,10]).bind fun r9=>if !r9.2.2 then (some (.inr ((jc.mk c4 l3 c5),false))) else (if decide (v2=0) then (z4r v2 l3 r9.1 (wr (c5+(wr ((r9.1.length:Int)+2))))) else (if decide (r9.1=[]) then (some (.inr ((jc.mk c4 l3 (wr (c5+(wr ((r9.1.length:Int)+2))))),true))) else ((vq r9.1 [58]).bind fun r14=>(Zr r14.2.1 [32]).bind fun r16=>if !r14.2.2 then (z1v v2 l3 c4 c5 r9 r14 r16 true) else ((Ym r14.1).bind fun r20=>if !r20 then (z1v v2 l3 c4 c5 r9 r14 r16 true) else ((z0q r16).bind fun r24=>z1v v2 l3 c4 c5 r9 r14 r16 (!r24))))))
noncomputable def Zc (v1:Bs):Option (jc×Bool):=
 iter (fun (s:Int×(List zg)×Bs×Int)=>ud v1 s.1 s.2.1 s.2.2.1 s.2.2.2) (0,([]:List zg),[],0)
noncomputable def z25 (v8:Bool):Option (Bool):=
 some v8
noncomputable def z88 (s1:Bs) (v2:Bs):Option (Bool):=
 if decide ((v2.length:Int)≤(s1.length:Int)) then ((sub? s1 0 (v2.length:Int)).bind fun (l5:Bs)=>z25 (decide (l5=v2))) else (z25 false)
noncomputable def z89 (s1:Bs) (v2:Bs):Option (Bs×Bool):=
 (z88 s1 v2).bind fun r3=>if !r3 then (some (s1,false)) else ((sub? s1 (v2.length:Int) (s1.length:Int)).bind fun (l6:Bs)=>some (l6,true))
noncomputable def Qo (s1:Bs) (v2:Bs):Option (Bs×Bool):=
 (z89 s1 v2).bind fun r3=>some (r3.1,r3.2)
noncomputable def ue (c1:Int):Option (Int):=
 some (or_ .u8 c1 32)
noncomputable def z6h (v47:Int) (v85:Int):Option ((Int×Int) ⊕ (Bool)):=
 some (.inl (v85,wr (v47+1)))
noncomputable def Yr (v14:Bs) (v46:Int) (v47:Int) (v78:Bool):Option ((Int×Int) ⊕ (Bool)):=
 if v78 then (z6h v47 48) else ((at? v14 v47).bind fun (x80:UInt8)=>if decide ((x80.toNat:Int)=95) then (if decide (v46≠48) then (some (.inr false)) else (z6h v47 95)) else (if decide (v46=95) then (some (.inr false)) else (z6h v47 33)))
noncomputable def y3y (v86:Int):Option (Bool):=
 some (decide (v86≠95))
noncomputable def y9g (v14:Bs) (v45:Bool) (v46:Int) (v47:Int):Option ((Int×Int) ⊕ (Bool)):=
 if decide (v47 < (v14.length:Int)) then ((at? v14 v47).bind fun (x50:UInt8)=>if decide (48≤(x50.toNat:Int)) then (if decide ((x50.toNat:Int)≤57) then (Yr v14 v46 v47 true) else (if v45 then ((ue (x50.toNat:Int)).bind fun r58=>if decide (97≤r58) then ((ue (x50.toNat:Int)).bind fun r62=>Yr v14 v46 v47 (decide (r62≤102))) else (Yr v14 v46 v47 false)) else (Yr v14 v46 v47 false))) else (if v45 then ((ue (x50.toNat:Int)).bind fun r70=>if decide (97≤r70) then ((ue (x50.toNat:Int)).bind fun r74=>Yr v14 v46 v47 (decide (r74≤102))) else (Yr v14 v46 v47 false)) else (Yr v14 v46 v47 false))) else (Option.map .inr (y3y v46))
noncomputable def z9x (v14:Bs) (v43:Int) (v44:Int) (v45:Bool):Option (Bool):=
 iter (fun (s:Int×Int)=>y9g v14 v45 s.1 s.2) (v43,v44)
noncomputable def z0z (v14:Bs) (v37:Bool):Option (Bool):=
 if v37 then ((v14[1]?).bind fun (x39:UInt8)=>(ue (x39.toNat:Int)).bind fun r41=>z9x v14 48 2 (decide (r41=120))) else (z9x v14 94 0 false)
noncomputable def z9y (v14:Bs):Option (Bool):=
 if decide (2≤(v14.length:Int)) then ((v14[0]?).bind fun (x17:UInt8)=>if decide ((x17.toNat:Int)=48) then ((v14[1]?).bind fun (x21:UInt8)=>(ue (x21.toNat:Int)).bind fun r23=>if decide (r23=98) then (z0z v14 true) else ((ue (x21.toNat:Int)).bind fun r27=>if decide (r27=111) then (z0z v14 true) else ((ue (x21.toNat:Int)).bind fun r31=>z0z v14 (decide (r31=120))))) else (z0z v14 false)) else (z0z v14 false)
noncomputable def z6i (v1:Bs) (v10:Bool):Option (Bool):=
 if v10 then ((sub? v1 1 (v1.length:Int)).bind fun (l12:Bs)=>z9y l12) else (z9y v1)
noncomputable def y77 (v1:Bs):Option (Bool):=
 if decide (1≤(v1.length:Int)) then ((v1[0]?).bind fun (x4:UInt8)=>if decide ((x4.toNat:Int)=45) then (z6i v1 true) else (z6i v1 (decide ((x4.toNat:Int)=43)))) else (z6i v1 false)
noncomputable def z9z (v87:Bool) (v88:Int):Option ((Bool×Int) ⊕ (Int×Int)):=
 some (.inl (v87,v88))
noncomputable def z95 (v46:Int) (v49:Int) (v53:Int) (v55:Bool) (v56:Int) (v83:Int):Option ((Bool×Int) ⊕ (Int×Int)):=
 if decide ((IntKind.wrap .u8 v46)≤v83) then (some (.inr (0,2))) else (if decide (v53≤v56) then (some (.inr (IntKind.wrap .u64 ((shl_ .u64 1 (IntKind.wrap .u64 v49)) - 1),1))) else (if ((decide ((IntKind.wrap .u64 ((IntKind.wrap .u64 (v56 * (IntKind.wrap .u64 v46)))+(IntKind.wrap .u64 v83))) < (IntKind.wrap .u64 (v56 * (IntKind.wrap .u64 v46))))) || (decide ((IntKind.wrap .u64 ((shl_ .u64 1 (IntKind.wrap .u64 v49)) - 1)) < (IntKind.wrap .u64 ((IntKind.wrap .u64 (v56 * (IntKind.wrap .u64 v46)))+(IntKind.wrap .u64 v83)))))) then (some (.inr (IntKind.wrap .u64 ((shl_ .u64 1 (IntKind.wrap .u64 v49)) - 1),1))) else (z9z v55 (IntKind.wrap .u64 ((IntKind.wrap .u64 (v56 * (IntKind.wrap .u64 v46)))+(IntKind.wrap .u64 v83))))))
noncomputable def z94 (v46:Int) (v49:Int) (v53:Int) (v55:Bool) (v56:Int) (x60:Int) (v79:Bool):Option ((Bool×Int) ⊕ (Int×Int)):=
 if v79 then ((ue x60).bind fun r81=>z95 v46 v49 v53 v55 v56 (IntKind.wrap .u8 ((IntKind.wrap .u8 (r81 - 97))+10))) else (some (.inr (0,2)))
noncomputable def Qx (v2:Int) (v46:Int) (v49:Int) (v53:Int) (k57:Nat) (x60:Int) (v55:Bool) (v56:Int):Option ((Bool×Int) ⊕ (Int×Int)):=
 if ((decide (x60=95)) && (decide (v2=0))) then (z9z true v56) else (if ((decide (48≤x60)) && (decide (x60≤57))) then (z95 v46 v49 v53 v55 v56 (IntKind.wrap .u8 (x60 - 48))) else ((ue x60).bind fun r72=>if decide (97≤r72) then ((ue x60).bind fun r76=>z94 v46 v49 v53 v55 v56 x60 (decide (r76≤122))) else (z94 v46 v49 v53 v55 v56 x60 false)))
noncomputable def z6j (v56:Int) (v66:Bool):Option (Int×Int):=
 if v66 then (some (0,2)) else (some (v56,0))
noncomputable def z6l (v1:Bs) (v55:Bool) (v56:Int):Option (Int×Int):=
 if v55 then ((y77 v1).bind fun r63=>z6j v56 (!r63)) else (z6j v56 false)
noncomputable def z6k (v1:Bs) (v2:Int) (v45:Bs) (v46:Int) (v49:Int) (v53:Int):Option (Int×Int):=
 if (0:Int)≤(IntKind.wrap .u64 v49) then (if (yk v45).length≤1000000000 then forL (fun (k:Nat) (x:Int) (s:Bool×Int)=>Qx v2 v46 v49 v53 k x s.1 s.2) (fun (s:Bool×Int)=>z6l v1 s.1 s.2) 0 (yk v45) (false,0) else none) else none
noncomputable def z90 (v1:Bs) (v2:Int) (v45:Bs) (v46:Int) (v49:Int):Option (Int×Int):=
 if decide (v46=10) then (z6k v1 v2 v45 v46 v49 1844674407370955162) else (if decide (v46=16) then (z6k v1 v2 v45 v46 v49 1152921504606846976) else (if (IntKind.wrap .u64 v46)≠0 then (z6k v1 v2 v45 v46 v49 (IntKind.wrap .u64 ((IntKind.wrap .u64 (Int.tdiv 18446744073709551615 (IntKind.wrap .u64 v46)))+1))) else none))
noncomputable def Qy (v1:Bs) (v2:Int) (v3:Int) (v45:Bs) (v46:Int):Option (Int×Int):=
 if decide (v3=0) then (z90 v1 v2 v45 v46 64) else (if ((decide (v3 < 0)) || (decide (64 < v3))) then (some (0,4)) else (z90 v1 v2 v45 v46 v3))
noncomputable def z91 (v1:Bs) (v2:Int) (v3:Int) (v39:Bool):Option (Int×Int):=
 if v39 then ((sub? v1 2 (v1.length:Int)).bind fun (l41:Bs)=>Qy v1 v2 v3 l41 16) else ((sub? v1 1 (v1.length:Int)).bind fun (l43:Bs)=>Qy v1 v2 v3 l43 8)
noncomputable def z92 (v1:Bs) (v2:Int) (v3:Int) (v28:Bool):Option (Int×Int):=
 if v28 then ((sub? v1 2 (v1.length:Int)).bind fun (l30:Bs)=>Qy v1 v2 v3 l30 8) else (if decide (3≤(v1.length:Int)) then ((v1[1]?).bind fun (x34:UInt8)=>(ue (x34.toNat:Int)).bind fun r36=>z91 v1 v2 v3 (decide (r36=120))) else (z91 v1 v2 v3 false))
noncomputable def z93 (v1:Bs) (v2:Int) (v3:Int) (v17:Bool):Option (Int×Int):=
 if v17 then ((sub? v1 2 (v1.length:Int)).bind fun (l19:Bs)=>Qy v1 v2 v3 l19 2) else (if decide (3≤(v1.length:Int)) then ((v1[1]?).bind fun (x23:UInt8)=>(ue (x23.toNat:Int)).bind fun r25=>z92 v1 v2 v3 (decide (r25=111))) else (z92 v1 v2 v3 false))
noncomputable def z5t (v1:Bs) (v2:Int) (v3:Int):Option (Int×Int):=
 if decide (v1=[]) then (some (0,2)) else (if ((decide (2≤v2)) && (decide (v2≤36))) then (Qy v1 v2 v3 v1 v2) else (if decide (v2=0) then ((v1[0]?).bind fun (x7:UInt8)=>if decide ((x7.toNat:Int)=48) then (if decide (3≤(v1.length:Int)) then ((v1[1]?).bind fun (x12:UInt8)=>(ue (x12.toNat:Int)).bind fun r14=>z93 v1 v2 v3 (decide (r14=98))) else (z93 v1 v2 v3 false)) else (Qy v1 v2 v3 v1 10)) else (some (0,3))))
noncomputable def z96 (v29:Int):Option (Int×Int):=
 some (v29,0)
noncomputable def z97 (v14:Bool) (r15:(Int×Int)) (v24:Int):Option (Int×Int):=
 if (0:Int)≤(IntKind.wrap .u64 (wr (v24 - 1))) then (if ((!v14) && (decide ((shl_ .u64 1 (IntKind.wrap .u64 (wr (v24 - 1))))≤r15.1))) then (some (IntKind.wrap .i64 (IntKind.wrap .u64 ((shl_ .u64 1 (IntKind.wrap .u64 (wr (v24 - 1)))) - 1)),1)) else (if (v14 && (decide ((shl_ .u64 1 (IntKind.wrap .u64 (wr (v24 - 1)))) < r15.1))) then (some ((wr (-(IntKind.wrap .i64 (shl_ .u64 1 (IntKind.wrap .u64 (wr (v24 - 1))))))),1)) else (if v14 then (z96 (wr (-(IntKind.wrap .i64 r15.1)))) else (z96 (IntKind.wrap .i64 r15.1))))) else none
noncomputable def z98 (v3:Int) (v14:Bool) (r15:(Int×Int)) (v21:Bool):Option (Int×Int):=
 if v21 then (some (0,r15.2)) else (if decide (v3=0) then (z97 v14 r15 64) else (z97 v14 r15 v3))
noncomputable def z6m (v2:Int) (v3:Int) (v13:Bs) (v14:Bool):Option (Int×Int):=
 (z5t v13 v2 v3).bind fun r15=>if decide (r15.2≠0) then (if (0:Int)≤r15.2∧r15.2≤(4:Int) then (z98 v3 v14 r15 (decide (r15.2≠1))) else none) else (z98 v3 v14 r15 false)
noncomputable def y25 (v1:Bs) (v2:Int) (v3:Int):Option (Int×Int):=
 if decide (v1=[]) then (some (0,2)) else ((v1[0]?).bind fun (x5:UInt8)=>if decide ((x5.toNat:Int)=43) then ((sub? v1 1 (v1.length:Int)).bind fun (l8:Bs)=>z6m v2 v3 l8 false) else (if decide ((x5.toNat:Int)=45) then ((sub? v1 1 (v1.length:Int)).bind fun (l11:Bs)=>z6m v2 v3 l11 true) else (z6m v2 v3 v1 false)))
noncomputable def z6n (k15:Nat) (x18:Int) (v14:Int):Option (Int ⊕ (Int×Int)):=
 if decide (9 < (IntKind.wrap .u8 (x18 - 48))) then (some (.inr (0,2))) else (some (.inl (wr ((wr (v14 * 10))+(IntKind.wrap .i64 (IntKind.wrap .u8 (x18 - 48)))))))
noncomputable def z26 (v23:Int):Option (Int×Int):=
 some (v23,0)
noncomputable def z29 (v1:Bs) (v14:Int):Option (Int×Int):=
 (v1[0]?).bind fun (x19:UInt8)=>if decide ((x19.toNat:Int)=45) then (if -9223372036854775807≤v14∧v14≤9223372036854775807 then (z26 (-v14)) else none) else (z26 v14)
noncomputable def z28 (v1:Bs) (v13:Bs):Option (Int×Int):=
 if (yk v13).length≤1000000000 then forL (fun (k:Nat) (x:Int) (s:Int)=>z6n k x s) (fun (s:Int)=>z29 v1 s) 0 (yk v13) 0 else none
noncomputable def z27 (v1:Bs) (v8:Bool):Option (Int×Int):=
 if v8 then ((sub? v1 1 (v1.length:Int)).bind fun (l10:Bs)=>if decide ((l10.length:Int) < 1) then (some (0,2)) else (z28 v1 l10)) else (z28 v1 v1)
noncomputable def z2o (v1:Bs):Option (Int×Int):=
 if ((false && ((decide (0 < (v1.length:Int))) && (decide ((v1.length:Int) < 10)))) || (true && ((decide (0 < (v1.length:Int))) && (decide ((v1.length:Int) < 19))))) then ((v1[0]?).bind fun (x3:UInt8)=>if decide ((x3.toNat:Int)=45) then (z27 v1 true) else (z27 v1 (decide ((x3.toNat:Int)=43)))) else ((y25 v1 10 0).bind fun r27=>some (r27.1,r27.2))
noncomputable def Za (s1:Bs):Option (Int×Int):=
 (z2o s1).bind fun r2=>if decide (r2.2≠0) then ((y21 [65,116,111,105] s1 0 0 r2.2).bind fun r5=>some (r2.1,r5)) else (some (r2.1,0))
noncomputable def Qf (r2:(Bs×Bool)) (v26:Bool):Option (Int×Bool):=
 if v26 then (some (0,false)) else ((sub? r2.1 0 3).bind fun (l28:Bs)=>(Za l28).bind fun r30=>some (r30.1,decide (r30.2=0)))
noncomputable def z5l (s1:Bs):Option (Int×Bool):=
 (Qo s1 [72,84,84,80,47,49,46,49,32]).bind fun r2=>if !r2.2 then (Qf r2 true) else (if decide ((r2.1.length:Int) < 4) then (Qf r2 true) else ((sub? r2.1 0 3).bind fun (l8:Bs)=>(Qn l8 [48,49,50,51,52,53,54,55,56,57]).bind fun r10=>if decide (r10≠[]) then (Qf r2 true) else ((r2.1[3]?).bind fun (x14:UInt8)=>if decide ((x14.toNat:Int)≠32) then (Qf r2 true) else ((sub? r2.1 4 (r2.1.length:Int)).bind fun (l18:Bs)=>(Yj l18 32 126).bind fun r20=>Qf r2 (!r20)))))
noncomputable def z43 (out14:(List Bs)):Option ((List Bs) ⊕ ((List Bs))):=
 some (.inl out14)
noncomputable def z14 (name2:Bs) (k4:Nat) (x7:zg) (l3:(List Bs)):Option ((List Bs) ⊕ ((List Bs))):=
 (Qr x7 name2).bind fun r10=>if r10 then (if l3.length+1≤1000000000 then (z43 (l3++[x7.Value])) else none) else (z43 l3)
noncomputable def y2u (l3:(List Bs)):Option ((List Bs)):=
 some l3
noncomputable def ve (l1:(List zg)) (name2:Bs):Option ((List Bs)):=
 if l1.length≤1000000000 then forL (fun (k:Nat) (x:zg) (s:(List Bs))=>z14 name2 k x s) (fun (s:(List Bs))=>y2u s) 0 l1 [] else none
noncomputable def z0a (v15:Bool):Option (Bool):=
 some v15
noncomputable def z83 (s1:Bs):Option (Bool):=
 if decide (s1≠[]) then ((Qn s1 [48,49,50,51,52,53,54,55,56,57]).bind fun r4=>if decide (r4=[]) then ((s1[0]?).bind fun (x8:UInt8)=>if decide ((x8.toNat:Int)≠48) then (z0a true) else (z0a (decide (s1=[48])))) else (z0a false)) else (z0a false)
noncomputable def Yh (v29:Bool):Option (Int):=
 if v29 then some 3 else some 0
noncomputable def z84 (l1:(List zg)) (hosts2:Int):Option (Int):=
 (ve l1 [99,111,110,116,101,110,116,45,108,101,110,103,116,104]).bind fun r3=>(ve l1 [116,114,97,110,115,102,101,114,45,101,110,99,111,100,105,110,103]).bind fun r5=>if (((decide (1 < hosts2)) || (decide (1 < (r3.length:Int)))) || (decide (1 < (r5.length:Int)))) then some 6 else (if ((decide ((r3.length:Int)=1)) && (decide ((r5.length:Int)=1))) then some 13 else (if decide ((r3.length:Int)=1) then ((r3[0]?).bind fun (x11:Bs)=>(z83 x11).bind fun r13=>if !r13 then (Yh true) else (if decide ((r5.length:Int)=1) then ((r5[0]?).bind fun (x19:Bs)=>Yh (decide (x19≠[99,104,117,110,107,101,100]))) else (Yh false))) else (if decide ((r5.length:Int)=1) then ((r5[0]?).bind fun (x26:Bs)=>Yh (decide (x26≠[99,104,117,110,107,101,100]))) else (Yh false))))
noncomputable def y7w (s1:Bs) (base2:Int) (bitSize3:Int):Option (Int×Int):=
 (y25 s1 base2 bitSize3).bind fun r4=>if decide (r4.2≠0) then ((y21 [80,97,114,115,101,73,110,116] s1 base2 bitSize3 r4.2).bind fun r7=>some (r4.1,r7)) else (some (r4.1,0))
noncomputable def z0b (s1:Bs) (v18:Bool):Option (Int×Bool):=
 if v18 then (some (0,false)) else ((y7w s1 16 64).bind fun r20=>some (r20.1,decide (r20.2=0)))
noncomputable def y73 (s1:Bs):Option (Int×Bool):=
 if decide (s1=[]) then (z0b s1 true) else (if decide (8 < (s1.length:Int)) then (z0b s1 true) else ((Qn s1 [48,49,50,51,52,53,54,55,56,57,97,98,99,100,101,102]).bind fun r6=>if decide (r6≠[]) then (z0b s1 true) else ((s1[0]?).bind fun (x10:UInt8)=>if decide ((x10.toNat:Int)=48) then (z0b s1 (decide (s1≠[48]))) else (z0b s1 false))))
noncomputable def y7v (l1:(List Int)):Option (Int×(List Int)):=
 some ((l1.length:Int),l1)
noncomputable def z8q (v2:Int) (r7:(Bs×Bs×Bool)) (r9:(Int×Bool)) (r12:(Int×(List Int))) (v20:Bool):Option ((Int×(List Int)) ⊕ (Bs×Int×Int)):=
 if v20 then (some (.inr ([],0,9))) else (if decide (r9.1=0) then (if byR r12.2=true then (some (.inr ((strN r12.2),wr (v2+(wr ((wr ((wr ((r7.1.length:Int)+2))+r9.1))+2))),0))) else none) else ((sub? r7.2.1 0 r9.1).bind fun (l24:Bs)=>(kk r12.2 l24).bind fun r26=>some (.inl (wr (v2+(wr ((wr ((wr ((r7.1.length:Int)+2))+r9.1))+2))),r26.2.2))))
noncomputable def y7p (s1:Bs) (v2:Int) (l3:(List Int)):Option ((Int×(List Int)) ⊕ (Bs×Int×Int)):=
 (sub? s1 v2 (s1.length:Int)).bind fun (l5:Bs)=>(vq l5 [13,10]).bind fun r7=>(y73 r7.1).bind fun r9=>if ((!r7.2.2) || (!r9.2)) then (some (.inr ([],0,9))) else ((y7v l3).bind fun r12=>if decide (20000 < (wr (r12.1+r9.1))) then (some (.inr ([],0,2))) else (if decide ((r7.2.1.length:Int) < (wr (r9.1+2))) then (z8q v2 r7 r9 r12 true) else ((sub? r7.2.1 r9.1 (wr (r9.1+2))).bind fun (l17:Bs)=>z8q v2 r7 r9 r12 (decide (l17≠[13,10])))))
noncomputable def y74 (s1:Bs):Option (Bs×Int×Int):=
 iter (fun (s:Int×(List Int))=>y7p s1 s.1 s.2) (0,([]:List Int))
noncomputable def z9s (v29:Bool):Option (Unit ⊕ (Int×Bool)):=
 if v29 then (some (.inr (0,false))) else (some (.inl ()))
noncomputable def z9r (i18:Nat) (x21:UInt8):Option (Unit ⊕ (Int×Bool)):=
 if decide ((x21.toNat:Int) < 48) then (z9s true) else (z9s (decide (57 < (x21.toNat:Int))))
noncomputable def z58 (s1:Bs):Option (Int×Bool):=
 (Za s1).bind fun r22=>some (r22.1,decide (r22.2=0))
noncomputable def xd (s1:Bs) (r3:(Bs)) (v16:Bool):Option (Int×Bool):=
 if v16 then (some (0,false)) else (if r3.length≤1000000000 then forL (fun (k:Nat) (x:UInt8) (s:Unit)=>z9r k x) (fun (s:Unit)=>z58 s1) 0 r3 () else none)
noncomputable def z2m (s1:Bs) (most2:Int):Option (Int×Bool):=
 (z5c s1 [45]).bind fun r3=>if decide (r3=[]) then (xd s1 r3 true) else (if decide (most2 < (r3.length:Int)) then (xd s1 r3 true) else ((r3[0]?).bind fun (x9:UInt8)=>if decide ((x9.toNat:Int)=48) then (xd s1 r3 (decide (s1≠[48]))) else (xd s1 r3 false)))
noncomputable def z0r (s1:Bs):Option (Int×Bool):=
 (z2m s1 9).bind fun r2=>some (r2.1,r2.2)
noncomputable def z0n (l1:(List zg)) (s2:Bs):Option (Bs×Int×Int):=
 (ve l1 [116,114,97,110,115,102,101,114,45,101,110,99,111,100,105,110,103]).bind fun r3=>if decide ((r3.length:Int)=1) then ((y74 s2).bind fun r6=>some (r6.1,r6.2.1,r6.2.2)) else ((ve l1 [99,111,110,116,101,110,116,45,108,101,110,103,116,104]).bind fun r8=>if decide ((r8.length:Int)=0) then (some ([],0,0)) else ((r8[0]?).bind fun (x11:Bs)=>(z0r x11).bind fun r13=>if ((!r13.2) || (decide (20000 < r13.1))) then (some ([],0,2)) else (if decide ((s2.length:Int) < r13.1) then (some ([],0,9)) else ((sub? s2 0 r13.1).bind fun (l17:Bs)=>some (l17,r13.1,0)))))
noncomputable def y6x (p1:zg→Option (Bool)) (k2:Nat) (x5:zg):Option (Unit ⊕ (Int)):=
 (p1 x5).bind fun r8=>if r8 then (some (.inr (k2:Int))) else (some (.inl ()))
noncomputable def y6y:Option (Int):=
 some (-1)
noncomputable def y71 (s1:(List zg)) (p1:zg→Option (Bool)):Option (Int):=
 if s1.length≤1000000000 then forL (fun (k:Nat) (x:zg) (s:Unit)=>y6x p1 k x) (fun (s:Unit)=>y6y) 0 s1 () else none
noncomputable def z8h (j6:Int) (i17:Int) (s18:(List zg)):Option ((Int×Int×(List zg)) ⊕ ((List zg))):=
 some (.inl (i17,wr (j6+1),s18))
noncomputable def y15 (i19:Int) (s20:(List zg)):Option ((List zg)):=
 if (0:Int)≤i19∧i19 < (s20.length:Int) then (if (0:Int)≤i19∧i19≤((s20.take i19.toNat++List.replicate (s20.length - i19.toNat) (zg.mk [] [])).length:Int) then (some ((s20.take i19.toNat++List.replicate (s20.length - i19.toNat) (zg.mk [] [])).take i19.toNat)) else none) else none
noncomputable def y63 (p1:zg→Option (Bool)) (i5:Int) (j6:Int) (l7:(List zg)):Option ((Int×Int×(List zg)) ⊕ ((List zg))):=
 if decide (j6 < (l7.length:Int)) then ((at? l7 j6).bind fun (x10:zg)=>(p1 x10).bind fun r12=>if !r12 then ((at? l7 i5).bind fun (x15:zg)=>z8h j6 (wr (i5+1)) (l7.set i5.toNat x10)) else (z8h j6 i5 l7)) else (Option.map .inr (y15 i5 l7))
noncomputable def z5i (s1:(List zg)) (p1:zg→Option (Bool)):Option ((List zg)):=
 (y71 s1 p1).bind fun r2=>if decide (r2=(-1)) then some s1 else (iter (fun (s:Int×Int×(List zg))=>y63 p1 s.1 s.2.1 s.2.2) (r2,wr (r2+1),s1))
noncomputable def z2x (h1:jc) (s2:Bs) (hosts3:Int):Option ((List zg)×Bs×Int×Int):=
 (z84 h1.headers_ hosts3).bind fun r4=>if decide (r4≠0) then (some ([],[],0,r4)) else ((sub? s2 h1.at_ (s2.length:Int)).bind fun (l7:Bs)=>(z0n h1.headers_ l7).bind fun r9=>if decide (r9.2.2≠0) then (some ([],[],0,r9.2.2)) else ((jj h1.headers_).bind fun r12=>(z5i r12 (fun (a0:zg)=>z0l a0)).bind fun r14=>some (r14,r9.1,wr (h1.at_+r9.2.1),0)))
noncomputable def z2j (v1:Bs):Option (yb×Int×Int):=
 if decide (60000 < (v1.length:Int)) then (some ((yb.mk 0 [] []),0,2)) else ((Zc v1).bind fun r3=>(z5l r3.1.first_).bind fun r5=>if ((!r3.2) || (!r5.2)) then (some ((yb.mk 0 [] []),0,9)) else (if decide (50 < (r3.1.headers_.length:Int)) then (some ((yb.mk 0 [] []),0,2)) else ((z2x r3.1 v1 0).bind fun r9=>if decide (r9.2.2.2≠0) then (some ((yb.mk 0 [] []),0,r9.2.2.2)) else ((kl (yb.mk r5.1 r9.1 r9.2.1)).bind fun r12=>if decide (r12≠0) then (some ((yb.mk 0 [] []),0,r12)) else (some ((yb.mk r5.1 r9.1 r9.2.1),r9.2.2.1,0))))))
noncomputable def z5s (n1:Int):Option (Bool):=
 some ((decide (0≤n1)) && (decide (n1 < 345686400000)))
noncomputable def z10 (v19:Bool):Option (Bool):=
 some v19
noncomputable def z4w (v32:Bool):Option (Unit ⊕ (Bool)):=
 if v32 then (some (.inr false)) else (some (.inl ()))
noncomputable def y7n (k2:Nat) (x5:UInt8):Option (Unit ⊕ (Bool)):=
 (z82 (x5.toNat:Int)).bind fun r22=>if !r22 then ((z5o (x5.toNat:Int)).bind fun r26=>if !r26 then (z4w (decide ((x5.toNat:Int)≠45))) else (z4w false)) else (z4w false)
noncomputable def y7o (s1:Bs):Option (Bool):=
 if decide (s1≠[]) then (if decide ((s1.length:Int)≤63) then ((s1[0]?).bind fun (x10:UInt8)=>if decide ((x10.toNat:Int)≠45) then ((at? s1 (wr ((s1.length:Int) - 1))).bind fun (x14:UInt8)=>z10 (decide ((x14.toNat:Int)≠45))) else (z10 false)) else (z10 false)) else (z10 false)
noncomputable def y72 (s1:Bs):Option (Bool):=
 if s1.length≤1000000000 then forL (fun (k:Nat) (x:UInt8) (s:Unit)=>y7n k x) (fun (s:Unit)=>y7o s1) 0 s1 () else none
noncomputable def z11 (v23:Bool):Option (Bool):=
 some v23
noncomputable def y2s (k6:Nat) (x9:Bs):Option (Unit ⊕ (Bool)):=
 (y72 x9).bind fun r26=>if !r26 then (some (.inr false)) else (some (.inl ()))
noncomputable def y2t (s1:Bs) (r2:(Bs×Bs×Bool)):Option (Bool):=
 (z0r r2.2.1).bind fun r10=>if decide ((s1.length:Int)≤255) then (if !r2.2.2 then (z11 true) else (if r10.2 then ((Qu r10.1 1 65535).bind fun r18=>z11 (!r18)) else (z11 false))) else (z11 false)
noncomputable def Zu (s1:Bs):Option (Bool):=
 (vq s1 [58]).bind fun r2=>(vz r2.1 [46]).bind fun r4=>if r4.length≤1000000000 then forL (fun (k:Nat) (x:Bs) (s:Unit)=>y2s k x) (fun (s:Unit)=>y2t s1 r2) 0 r4 () else none
noncomputable def z0d (v17:Bool):Option (Int):=
 if v17 then some 3 else some 0
noncomputable def z2k (s1:Bs):Option (Int):=
 if decide (1000 < (s1.length:Int)) then (z0d true) else ((y7u s1 [47]).bind fun r4=>if !r4 then (z0d true) else ((Yj s1 33 126).bind fun r8=>if !r8 then (z0d true) else ((z5e s1 [63,35]).bind fun r12=>z0d r12)))
noncomputable def Zq (v12:Bool):Option (Int):=
 if v12 then some 3 else some 0
noncomputable def Zd (s1:Bs):Option (Int):=
 if decide (1000 < (s1.length:Int)) then (Zq true) else ((Yj s1 33 126).bind fun r4=>if !r4 then (Zq true) else ((z0h s1 [35]).bind fun r8=>Zq r8))
noncomputable def xy (r1:zw) (v25:Bool):Option (Int):=
 if v25 then some 3 else ((z2l r1.Headers).bind fun r27=>if decide (r27≠0) then some r27 else (if decide (20000 < (r1.Body.length:Int)) then some 2 else some 0))
noncomputable def jk (r1:zw):Option (Int):=
 (z5s r1.At).bind fun r2=>if !r2 then some 1 else ((Ym r1.Method).bind fun r5=>if !r5 then some 5 else ((Zu r1.Host).bind fun r8=>if !r8 then (xy r1 true) else ((z2k r1.Path).bind fun r12=>if decide (r12≠0) then (xy r1 true) else ((Zd r1.Query).bind fun r16=>if decide (r16≠0) then (xy r1 true) else ((z0q r1.From).bind fun r20=>xy r1 (!r20))))))
noncomputable def z2g (h1:zg) (c2:Bs):Option (Bool):=
 (Qr h1 c2).bind fun r3=>some r3
noncomputable def z0j (l1:(List zg)) (name2:Bs):Option ((List zg)):=
 (jj l1).bind fun r3=>(z5i r3 (fun (a0:zg)=>z2g a0 name2)).bind fun r5=>some r5
noncomputable def z42 (r1:zw) (l29:(List Int)):Option (Bs×Int):=
 if [13,10].length+r1.Body.length≤1000000000 then ((kk l29 ([13,10]++r1.Body)).bind fun r31=>if byR r31.2.2=true then (some ((strN r31.2.2),0)) else none) else none
noncomputable def Qh (r1:zw) (l13:(List Int)):Option (Bs×Int):=
 if [32,72,84,84,80,47,49,46,49,13,10,104,111,115,116,58,32].length+r1.Host.length≤1000000000 then (if ([32,72,84,84,80,47,49,46,49,13,10,104,111,115,116,58,32]++r1.Host).length+[13,10].length≤1000000000 then ((kk l13 (([32,72,84,84,80,47,49,46,49,13,10,104,111,115,116,58,32]++r1.Host)++[13,10])).bind fun r16=>(z0j r1.Headers [104,111,115,116]).bind fun r18=>(z5p r16.2.2 r18).bind fun r20=>if decide (r1.Body≠[]) then ((xz (r1.Body.length:Int)).bind fun r23=>if [99,111,110,116,101,110,116,45,108,101,110,103,116,104,58,32].length+r23.length≤1000000000 then (if ([99,111,110,116,101,110,116,45,108,101,110,103,116,104,58,32]++r23).length+[13,10].length≤1000000000 then ((kk r20 (([99,111,110,116,101,110,116,45,108,101,110,103,116,104,58,32]++r23)++[13,10])).bind fun r27=>z42 r1 r27.2.2) else none) else none) else (z42 r1 r20)) else none) else none
noncomputable def z2i (r1:zw):Option (Bs×Int):=
 (jk r1).bind fun r2=>if decide (r2≠0) then (some ([],r2)) else (if r1.Method.length+[32].length≤1000000000 then (if (r1.Method++[32]).length+r1.Path.length≤1000000000 then ((kk ([]:List Int) ((r1.Method++[32])++r1.Path)).bind fun r7=>if decide (r1.Query≠[]) then (if [63].length+r1.Query.length≤1000000000 then ((kk r7.2.2 ([63]++r1.Query)).bind fun r11=>Qh r1 r11.2.2) else none) else (Qh r1 r7.2.2)) else none) else none)
noncomputable def y6p (v2:Bs) (k3:Nat) (x6:Bs):Option (Unit ⊕ (Int)):=
 if decide (v2=x6) then (some (.inr (k3:Int))) else (some (.inl ()))
noncomputable def y6q:Option (Int):=
 some (-1)
noncomputable def Qp (s1:(List Bs)) (v2:Bs):Option (Int):=
 if s1.length≤1000000000 then forL (fun (k:Nat) (x:Bs) (s:Unit)=>y6p v2 k x) (fun (s:Unit)=>y6q) 0 s1 () else none
noncomputable def Qq (s1:(List Bs)) (v2:Bs):Option (Bool):=
 (Qp s1 v2).bind fun r3=>some (decide (0≤r3))
noncomputable def z5r (s1:Bs):Option ((List Bs)×Bool):=
 (vz s1 [32]).bind fun r2=>(Qq r2 []).bind fun r4=>some (r2,!r4)
noncomputable def z0c (v1:Bs) (r3:(jc×Bool)) (r5:((List Bs)×Bool)) (v18:Bool):Option (zw×Int×Int):=
 if v18 then (some ((zw.mk 0 [] [] [] [] [] [] []),0,9)) else (if decide (50 < (r3.1.headers_.length:Int)) then (some ((zw.mk 0 [] [] [] [] [] [] []),0,2)) else ((ve r3.1.headers_ [104,111,115,116]).bind fun r21=>if decide ((r21.length:Int)=0) then (some ((zw.mk 0 [] [] [] [] [] [] []),0,8)) else ((z2x r3.1 v1 (r21.length:Int)).bind fun r24=>if decide (r24.2.2.2≠0) then (some ((zw.mk 0 [] [] [] [] [] [] []),0,r24.2.2.2)) else ((r5.1[0]?).bind fun (x27:Bs)=>(r21[0]?).bind fun (x29:Bs)=>(z0j r24.1 [104,111,115,116]).bind fun r31=>(r5.1[1]?).bind fun (x33:Bs)=>(vq x33 [63]).bind fun r35=>(jk (zw.mk 0 x27 x29 r35.1 r35.2.1 [] r31 r24.2.1)).bind fun r37=>if decide (r37≠0) then (some ((zw.mk 0 [] [] [] [] [] [] []),0,r37)) else (some ((zw.mk 0 x27 x29 r35.1 r35.2.1 [] r31 r24.2.1),r24.2.2.1,0))))))
noncomputable def z85 (v1:Bs):Option (zw×Int×Int):=
 if decide (60000 < (v1.length:Int)) then (some ((zw.mk 0 [] [] [] [] [] [] []),0,2)) else ((Zc v1).bind fun r3=>(z5r r3.1.first_).bind fun r5=>if !r3.2 then (z0c v1 r3 r5 true) else (if !r5.2 then (z0c v1 r3 r5 true) else (if decide ((r5.1.length:Int)≠3) then (z0c v1 r3 r5 true) else ((r5.1[2]?).bind fun (x13:Bs)=>z0c v1 r3 r5 (decide (x13≠[72,84,84,80,47,49,46,49]))))))
noncomputable def y24 (l1:(List zg)) (name2:Bs):Option (Int):=
 (z2l l1).bind fun r3=>if decide (r3≠0) then some r3 else ((Ym name2).bind fun r6=>if !r6 then some 5 else some 0)
noncomputable def z5q (l1:(List zg)) (name2:Bs):Option ((List zg)×Int):=
 (y24 l1 name2).bind fun r3=>if decide (r3≠0) then (some ([],r3)) else ((z0j l1 name2).bind fun r6=>some (r6,0))
noncomputable def xi (s1:Bs):Option (Bs×Int):=
 (Zu s1).bind fun r2=>if !r2 then (some ([],3)) else ((jv s1).bind fun r5=>(vq r5 [58]).bind fun r7=>if (((decide (r7.2.1=[])) || (decide (r7.2.1=[56,48]))) || (decide (r7.2.1=[52,52,51]))) then (some (r7.1,0)) else (if r7.1.length+[58].length≤1000000000 then (if (r7.1++[58]).length+r7.2.1.length≤1000000000 then (some (((r7.1++[58])++r7.2.1),0)) else none) else none))
noncomputable def Zs (l1:(List Int)) (c2:Int):Option (Int×(List Int)):=
 if l1.length+1≤1000000000 then (some (0,(l1++[c2]))) else none
noncomputable def z5n (c1:Int):Option (Bool):=
 (z5o c1).bind fun r2=>some ((r2 || ((decide (97≤c1)) && (decide (c1≤102)))) || ((decide (65≤c1)) && (decide (c1≤70))))
noncomputable def z1z (v17:Bool):Option (Bool):=
 some v17
noncomputable def z0k (s1:Bs) (v2:Int):Option (Bool):=
 if decide ((wr (v2+2)) < (s1.length:Int)) then ((at? s1 (wr (v2+1))).bind fun (x5:UInt8)=>(z5n (x5.toNat:Int)).bind fun r7=>if r7 then ((at? s1 (wr (v2+2))).bind fun (x11:UInt8)=>(z5n (x11.toNat:Int)).bind fun r13=>z1z r13) else (z1z false)) else (z1z false)
noncomputable def z5f (s1:Bs) (base2:Int) (bitSize3:Int):Option (Int×Int):=
 (z5t s1 base2 bitSize3).bind fun r4=>if decide (r4.2≠0) then ((y21 [80,97,114,115,101,85,105,110,116] s1 base2 bitSize3 r4.2).bind fun r7=>some (r4.1,r7)) else (some (r4.1,0))
noncomputable def z5k (s1:Bs) (v2:Int):Option (Int):=
 (sub? s1 (wr (v2+1)) (wr (v2+3))).bind fun (l3:Bs)=>(z5f l3 16 8).bind fun r5=>if decide (r5.2≠0) then some 0 else (some (IntKind.wrap .u8 r5.1))
noncomputable def z4x (v14:Bool):Option (Bool):=
 some v14
noncomputable def Yk (c1:Int):Option (Bool):=
 (z82 c1).bind fun r2=>if r2 then (z4x true) else ((z5o c1).bind fun r6=>if r6 then (z4x true) else ((z2d [45,46,95,126] c1).bind fun r10=>z4x (decide (0≤r10))))
noncomputable def Yi (c1:Int):Option (Bs):=
 (at? [48,49,50,51,52,53,54,55,56,57,65,66,67,68,69,70] (shr_ .u8 c1 4)).bind fun (x2:UInt8)=>(at? [48,49,50,51,52,53,54,55,56,57,65,66,67,68,69,70] (and_ .u8 c1 15)).bind fun (x4:UInt8)=>some (strN [37,(x2.toNat:Int),(x4.toNat:Int)])
noncomputable def z1y (i26:Int) (l27:(List Int)):Option ((Int×(List Int)) ⊕ (Bs×Bool)):=
 some (.inl (wr (i26+1),l27))
noncomputable def z4t (i2:Int) (l25:(List Int)):Option ((Int×(List Int)) ⊕ (Bs×Bool)):=
 z1y (wr (i2+2)) l25
noncomputable def z8o (l28:(List Int)):Option (Bs×Bool):=
 if byR l28=true then (some ((strN l28),true)) else none
noncomputable def un (s1:Bs) (i2:Int) (l3:(List Int)):Option ((Int×(List Int)) ⊕ (Bs×Bool)):=
 if decide (i2 < (s1.length:Int)) then ((at? s1 i2).bind fun (x6:UInt8)=>if decide ((x6.toNat:Int)≠37) then ((Zs l3 (x6.toNat:Int)).bind fun r9=>z1y i2 r9.2) else ((z0k s1 i2).bind fun r11=>if !r11 then (some (.inr ([],false))) else ((z5k s1 i2).bind fun r14=>(Yk r14).bind fun r16=>if r16 then ((Zs l3 r14).bind fun r19=>z4t i2 r19.2) else ((Yi r14).bind fun r21=>(kk l3 r21).bind fun r23=>z4t i2 r23.2.2)))) else (Option.map .inr (z8o l3))
noncomputable def z2h (s1:Bs):Option (Bs×Bool):=
 iter (fun (s:Int×(List Int))=>un s1 s.1 s.2) (0,([]:List Int))
noncomputable def z19 (out29:(List Bs)):Option ((List Bs) ⊕ (Bs×Int)):=
 some (.inl out29)
noncomputable def z48 (r10:((List Bs))) (k13:Nat) (out26:(List Bs)):Option ((List Bs) ⊕ (Bs×Int)):=
 if decide ((k13:Int)=(wr ((r10.length:Int) - 1))) then (if out26.length+1≤1000000000 then (z19 (out26++([[]]))) else none) else (z19 out26)
noncomputable def z18 (r10:((List Bs))) (k13:Nat) (x16:Bs) (l12:(List Bs)):Option ((List Bs) ⊕ (Bs×Int)):=
 if decide (x16=[46]) then (z48 r10 k13 l12) else (if decide (x16=[46,46]) then (if (0:Int)≤(max (wr ((l12.length:Int) - 1)) 0)∧(max (wr ((l12.length:Int) - 1)) 0)≤(l12.length:Int) then (z48 r10 k13 (l12.take (max (wr ((l12.length:Int) - 1)) 0).toNat)) else none) else (if l12.length+1≤1000000000 then (z19 (l12++[x16])) else none))
noncomputable def z5a (l12:(List Bs)):Option (Bs×Int):=
 (ji l12 [47]).bind fun r17=>if [47].length+r17.length≤1000000000 then (some (([47]++r17),0)) else none
noncomputable def Qs (s1:Bs):Option (Bs×Int):=
 (z2k s1).bind fun r2=>if decide (r2≠0) then (some ([],r2)) else ((z2h s1).bind fun r5=>if !r5.2 then (some ([],9)) else ((sub? r5.1 1 (r5.1.length:Int)).bind fun (l8:Bs)=>(vz l8 [47]).bind fun r10=>if r10.length≤1000000000 then forL (fun (k:Nat) (x:Bs) (s:(List Bs))=>z18 r10 k x s) (fun (s:(List Bs))=>z5a s) 0 r10 [] else none))
noncomputable def Qg (i22:Int) (l23:(List Int)):Option ((Int×(List Int)) ⊕ (Bs×Bool)):=
 some (.inl (wr (i22+1),l23))
noncomputable def z8p (l24:(List Int)):Option (Bs×Bool):=
 if byR l24=true then (some ((strN l24),true)) else none
noncomputable def ku (s1:Bs) (plus2:Bool) (i3:Int) (l4:(List Int)):Option ((Int×(List Int)) ⊕ (Bs×Bool)):=
 if decide (i3 < (s1.length:Int)) then ((at? s1 i3).bind fun (x7:UInt8)=>if ((decide ((x7.toNat:Int)=43)) && plus2) then ((Zs l4 32).bind fun r10=>Qg i3 r10.2) else (if decide ((x7.toNat:Int)≠37) then ((Zs l4 (x7.toNat:Int)).bind fun r13=>Qg i3 r13.2) else ((z0k s1 i3).bind fun r15=>if !r15 then (some (.inr ([],false))) else ((z5k s1 i3).bind fun r18=>(Zs l4 r18).bind fun r20=>Qg (wr (i3+2)) r20.2)))) else (Option.map .inr (z8p l4))
noncomputable def z0m (s1:Bs) (plus2:Bool):Option (Bs×Bool):=
 iter (fun (s:Int×(List Int))=>ku s1 plus2 s.1 s.2) (0,([]:List Int))
noncomputable def y6v (p1:zp→Option (Bool)) (k2:Nat) (x5:zp):Option (Unit ⊕ (Int)):=
 (p1 x5).bind fun r8=>if r8 then (some (.inr (k2:Int))) else (some (.inl ()))
noncomputable def y6w:Option (Int):=
 some (-1)
noncomputable def y70 (s1:(List zp)) (p1:zp→Option (Bool)):Option (Int):=
 if s1.length≤1000000000 then forL (fun (k:Nat) (x:zp) (s:Unit)=>y6v p1 k x) (fun (s:Unit)=>y6w) 0 s1 () else none
noncomputable def z8g (j6:Int) (i17:Int) (s18:(List zp)):Option ((Int×Int×(List zp)) ⊕ ((List zp))):=
 some (.inl (i17,wr (j6+1),s18))
noncomputable def y14 (i19:Int) (s20:(List zp)):Option ((List zp)):=
 if (0:Int)≤i19∧i19 < (s20.length:Int) then (if (0:Int)≤i19∧i19≤((s20.take i19.toNat++List.replicate (s20.length - i19.toNat) (zp.mk [] [])).length:Int) then (some ((s20.take i19.toNat++List.replicate (s20.length - i19.toNat) (zp.mk [] [])).take i19.toNat)) else none) else none
noncomputable def y62 (p1:zp→Option (Bool)) (i5:Int) (j6:Int) (l7:(List zp)):Option ((Int×Int×(List zp)) ⊕ ((List zp))):=
 if decide (j6 < (l7.length:Int)) then ((at? l7 j6).bind fun (x10:zp)=>(p1 x10).bind fun r12=>if !r12 then ((at? l7 i5).bind fun (x15:zp)=>z8g j6 (wr (i5+1)) (l7.set i5.toNat x10)) else (z8g j6 i5 l7)) else (Option.map .inr (y14 i5 l7))
noncomputable def z5h (s1:(List zp)) (p1:zp→Option (Bool)):Option ((List zp)):=
 (y70 s1 p1).bind fun r2=>if decide (r2=(-1)) then some s1 else (iter (fun (s:Int×Int×(List zp))=>y62 p1 s.1 s.2.1 s.2.2) (r2,wr (r2+1),s1))
noncomputable def z47 (out24:(List zp)):Option ((List zp) ⊕ ((List zp)×Int)):=
 some (.inl out24)
noncomputable def z16 (k8:Nat) (x11:Bs) (l7:(List zp)):Option ((List zp) ⊕ ((List zp)×Int)):=
 if decide (x11=[]) then (z47 l7) else ((vq x11 [61]).bind fun r16=>(z0m r16.1 true).bind fun r18=>(z0m r16.2.1 true).bind fun r20=>if ((!r18.2) || (!r20.2)) then (some (.inr ([],9))) else (if l7.length+1≤1000000000 then (z47 (l7++[(zp.mk r18.1 r20.1)])) else none))
noncomputable def z0e (l7:(List zp)):Option ((List zp)×Int):=
 if decide (100 < (l7.length:Int)) then (some ([],2)) else (some (l7,0))
noncomputable def Zv (s1:Bs):Option ((List zp)×Int):=
 (Zd s1).bind fun r2=>if decide (r2≠0) then (some ([],r2)) else ((vz s1 [38]).bind fun r5=>if r5.length≤1000000000 then forL (fun (k:Nat) (x:Bs) (s:(List zp))=>z16 k x s) (fun (s:(List zp))=>z0e s) 0 r5 [] else none)
noncomputable def z86 (p1:zp):Option (Bool):=
 some ((p1.Name == []) && ((p1.Value == []) && true))
noncomputable def z8v (x6:Int) (n7:Int):Option (Int):=
 (at? [0,1,2,2,3,3,3,3,4,4,4,4,4,4,4,4,5,5,5,5,5,5,5,5,5,5,5,5,5,5,5,5,6,6,6,6,6,6,6,6,6,6,6,6,6,6,6,6,6,6,6,6,6,6,6,6,6,6,6,6,6,6,6,6,7,7,7,7,7,7,7,7,7,7,7,7,7,7,7,7,7,7,7,7,7,7,7,7,7,7,7,7,7,7,7,7,7,7,7,7,7,7,7,7,7,7,7,7,7,7,7,7,7,7,7,7,7,7,7,7,7,7,7,7,7,7,7,7,8,8,8,8,8,8,8,8,8,8,8,8,8,8,8,8,8,8,8,8,8,8,8,8,8,8,8,8,8,8,8,8,8,8,8,8,8,8,8,8,8,8,8,8,8,8,8,8,8,8,8,8,8,8,8,8,8,8,8,8,8,8,8,8,8,8,8,8,8,8,8,8,8,8,8,8,8,8,8,8,8,8,8,8,8,8,8,8,8,8,8,8,8,8,8,8,8,8,8,8,8,8,8,8,8,8,8,8,8,8,8,8,8,8,8,8,8,8,8,8,8,8,8,8,8,8,8,8] (IntKind.wrap .u8 x6)).bind fun (x8:UInt8)=>some (wr (n7+(IntKind.wrap .i64 (x8.toNat:Int))))
noncomputable def z8w (x3:Int) (n4:Int):Option (Int):=
 if decide (256≤x3) then (z8v (shr_ .u32 x3 8) (wr (n4+8))) else (z8v x3 n4)
noncomputable def y76 (x1:Int):Option (Int):=
 if decide (65536≤x1) then (z8w (shr_ .u32 x1 16) 16) else (z8w x1 0)
noncomputable def z8s (x9:Int) (n10:Int):Option (Int):=
 (at? [0,1,2,2,3,3,3,3,4,4,4,4,4,4,4,4,5,5,5,5,5,5,5,5,5,5,5,5,5,5,5,5,6,6,6,6,6,6,6,6,6,6,6,6,6,6,6,6,6,6,6,6,6,6,6,6,6,6,6,6,6,6,6,6,7,7,7,7,7,7,7,7,7,7,7,7,7,7,7,7,7,7,7,7,7,7,7,7,7,7,7,7,7,7,7,7,7,7,7,7,7,7,7,7,7,7,7,7,7,7,7,7,7,7,7,7,7,7,7,7,7,7,7,7,7,7,7,7,8,8,8,8,8,8,8,8,8,8,8,8,8,8,8,8,8,8,8,8,8,8,8,8,8,8,8,8,8,8,8,8,8,8,8,8,8,8,8,8,8,8,8,8,8,8,8,8,8,8,8,8,8,8,8,8,8,8,8,8,8,8,8,8,8,8,8,8,8,8,8,8,8,8,8,8,8,8,8,8,8,8,8,8,8,8,8,8,8,8,8,8,8,8,8,8,8,8,8,8,8,8,8,8,8,8,8,8,8,8,8,8,8,8,8,8,8,8,8,8,8,8,8,8,8,8,8,8] (IntKind.wrap .u8 x9)).bind fun (x11:UInt8)=>some (wr (n10+(IntKind.wrap .i64 (x11.toNat:Int))))
noncomputable def z8t (x6:Int) (n7:Int):Option (Int):=
 if decide (256≤x6) then (z8s (shr_ .u64 x6 8) (wr (n7+8))) else (z8s x6 n7)
noncomputable def z8u (x3:Int) (n4:Int):Option (Int):=
 if decide (65536≤x3) then (z8t (shr_ .u64 x3 16) (wr (n4+16))) else (z8t x3 n4)
noncomputable def y75 (x1:Int):Option (Int):=
 if decide (4294967296≤x1) then (z8u (shr_ .u64 x1 32) 32) else (z8u x1 0)
noncomputable def z87 (x1:Int):Option (Int):=
 if false then ((y76 (IntKind.wrap .u32 x1)).bind fun r3=>some r3) else ((y75 x1).bind fun r5=>some r5)
noncomputable def y12 (i4:Int) (data28:(List zp)):Option ((Int×(List zp)) ⊕ ((List zp))):=
 some (.inl (wr (i4+1),data28))
noncomputable def z8f (i4:Int) (j8:Int) (l9:(List zp)) (v20:Bool):Option ((Int×(List zp)) ⊕ ((Int×(List zp)) ⊕ ((List zp)))):=
 if v20 then ((at? l9 (wr (j8 - 1))).bind fun (x22:zp)=>(at? l9 j8).bind fun (x24:zp)=>(at? (l9.set j8.toNat x22) (wr (j8 - 1))).bind fun (x26:zp)=>some (.inl (wr (j8 - 1),((l9.set j8.toNat x22).set ((wr (j8 - 1)).toNat) x24)))) else (Option.map .inr (y12 i4 l9))
noncomputable def y6n (a2:Int) (p3:zp→zp→Option (Int)) (i4:Int) (j8:Int) (l9:(List zp)):Option ((Int×(List zp)) ⊕ ((Int×(List zp)) ⊕ ((List zp)))):=
 if decide (a2 < j8) then ((at? l9 j8).bind fun (x13:zp)=>(at? l9 (wr (j8 - 1))).bind fun (x15:zp)=>(p3 x13 x15).bind fun r17=>z8f i4 j8 l9 (decide (r17 < 0))) else (z8f i4 j8 l9 false)
noncomputable def y6o (a2:Int) (b3:Int) (p3:zp→zp→Option (Int)) (i4:Int) (l5:(List zp)):Option ((Int×(List zp)) ⊕ ((List zp))):=
 if decide (i4 < b3) then (iter (fun (s:Int×(List zp))=>y6n a2 p3 i4 s.1 s.2) (i4,l5)) else (some (.inr l5))
noncomputable def z8z (data1:(List zp)) (a2:Int) (b3:Int) (p3:zp→zp→Option (Int)):Option ((List zp)):=
 iter (fun (s:Int×(List zp))=>y6o a2 b3 p3 s.1 s.2) (wr (a2+1),data1)
noncomputable def y6m (v1:(List zp)) (p4:zp→zp→Option (Int)) (v5:Int) (v6:Int) (v7:Int) (v8:Bool) (v9:Bool):Option ((Int×Int×Int×Bool×Bool) ⊕ ((List zp))):=
 if decide ((wr (v6 - v5))≤12) then ((z8z v1 v5 v6 p4).bind fun r12=>if r12.length=v1.length then (some (.inr r12)) else none) else (if decide (v7=0) then none else none)
noncomputable def z8y (v1:(List zp)) (v2:Int) (v3:Int) (v4:Int) (p4:zp→zp→Option (Int)):Option ((List zp)):=
 iter (fun (s:Int×Int×Int×Bool×Bool)=>y6m v1 p4 s.1 s.2.1 s.2.2.1 s.2.2.2.1 s.2.2.2.2) (v2,v3,v4,true,true)
noncomputable def Zb (x1:(List zp)) (p1:zp→zp→Option (Int)):Option ((List zp)):=
 (z87 (IntKind.wrap .u64 (x1.length:Int))).bind fun r2=>(z8y x1 0 (x1.length:Int) r2 p1).bind fun r4=>if r4.length=x1.length then some r4 else none
noncomputable def jb (a1:zp) (b2:zp):Option (Int):=
 if decide (a1.Name≠b2.Name) then ((z2f a1.Name b2.Name).bind fun r4=>some r4) else ((z2f a1.Value b2.Value).bind fun r6=>some r6)
noncomputable def z1x (l22:(List Int)):Option ((List Int) ⊕ (Bs)):=
 some (.inl l22)
noncomputable def z1w (k3:Nat) (x6:UInt8) (l2:(List Int)):Option ((List Int) ⊕ (Bs)):=
 if decide ((x6.toNat:Int)=32) then ((Zs l2 43).bind fun r11=>z1x r11.2) else ((Yk (x6.toNat:Int)).bind fun r13=>if r13 then ((Zs l2 (x6.toNat:Int)).bind fun r16=>z1x r16.2) else ((Yi (x6.toNat:Int)).bind fun r18=>(kk l2 r18).bind fun r20=>z1x r20.2.2))
noncomputable def z4s (l2:(List Int)):Option (Bs):=
 if byR l2=true then (some (strN l2)) else none
noncomputable def z5m (s1:Bs):Option (Bs):=
 if s1.length≤1000000000 then forL (fun (k:Nat) (x:UInt8) (s:(List Int))=>z1w k x s) (fun (s:(List Int))=>z4s s) 0 s1 ([]:List Int) else none
noncomputable def Qi (k4:Nat) (x7:zp) (l3:(List Bs)):Option ((List Bs) ⊕ (Bs×Int)):=
 if ((x7.Name == []) && ((x7.Value == []) && true)) then (some (.inr ([],3))) else ((z5m x7.Name).bind fun r14=>if r14.length+[61].length≤1000000000 then ((z5m x7.Value).bind fun r17=>if (r14++[61]).length+r17.length≤1000000000 then (if l3.length+1≤1000000000 then (some (.inl (l3++([((r14++[61])++r17)])))) else none) else none) else none)
noncomputable def z15 (l3:(List Bs)):Option (Bs×Int):=
 (ji l3 [38]).bind fun r8=>if decide (1000 < (r8.length:Int)) then (some ([],2)) else (some (r8,0))
noncomputable def xh (l1:(List zp)):Option (Bs×Int):=
 if decide (100 < (l1.length:Int)) then (some ([],2)) else (if l1.length≤1000000000 then forL (fun (k:Nat) (x:zp) (s:(List Bs))=>Qi k x s) (fun (s:(List Bs))=>z15 s) 0 l1 [] else none)
noncomputable def z17 (k26:Nat) (l25:(List zg)):Option ((List zg) ⊕ (zw×Int)):=
 (l25[k26]?).bind fun (x30:zg)=>(jv x30.Name).bind fun r32=>some (.inl (l25.set k26 (zg.mk r32 x30.Value)))
noncomputable def z8r (v1:zw) (r5:(Bs×Int)) (r7:(Bs×Int)) (r18:(Bs×Int)) (r21:(Bs)) (l25:(List zg)):Option (zw×Int):=
 some ((zw.mk v1.At r21 r5.1 r7.1 r18.1 v1.From l25 v1.Body),0)
noncomputable def Yl (v1:zw):Option (zw×Int):=
 (jk v1).bind fun r2=>if decide (r2≠0) then (some ((zw.mk 0 [] [] [] [] [] [] []),r2)) else ((xi v1.Host).bind fun r5=>(Qs v1.Path).bind fun r7=>if decide (r7.2≠0) then (some ((zw.mk 0 [] [] [] [] [] [] []),r7.2)) else ((Zv v1.Query).bind fun r10=>if decide (r10.2≠0) then (some ((zw.mk 0 [] [] [] [] [] [] []),r10.2)) else ((z5h r10.1 (fun (a0:zp)=>z86 a0)).bind fun r13=>(Zb r13 (fun (a0:zp) (a1:zp)=>jb a0 a1)).bind fun r15=>if r15.length=r13.length then ((xh r15).bind fun r18=>if decide (r18.2≠0) then (some ((zw.mk 0 [] [] [] [] [] [] []),r18.2)) else ((z0g v1.Method).bind fun r21=>(jj v1.Headers).bind fun r23=>if r23.length≤1000000000 then rng (fun (k:Nat) (s:(List zg))=>z17 k s) (fun (s:(List zg))=>z8r v1 r5 r7 r18 r21 s) r23.length 0 r23 else none)) else none)))
noncomputable def y3p (i2:Nat) (x5:UInt8):Option (Unit ⊕ (Bool)):=
 if !(((decide (97≤(x5.toNat:Int))) && (decide ((x5.toNat:Int)≤122))) || ((decide (0 < (i2:Int))) && ((((decide (48≤(x5.toNat:Int))) && (decide ((x5.toNat:Int)≤57))) || (decide ((x5.toNat:Int)=45))) || (decide ((x5.toNat:Int)=95))))) then (some (.inr false)) else (some (.inl ()))
noncomputable def y8v (s1:Bs):Option (Bool):=
 some ((decide (s1≠[])) && (decide ((s1.length:Int)≤40)))
noncomputable def z2n (s1:Bs):Option (Bool):=
 if s1.length≤1000000000 then forL (fun (k:Nat) (x:UInt8) (s:Unit)=>y3p k x) (fun (s:Unit)=>y8v s1) 0 s1 () else none
noncomputable def z7k (x6:jd) (v17:Bool):Option (Unit ⊕ (Int)):=
 if v17 then (some (.inr 7)) else ((Qu x6.Weight 1 100).bind fun r19=>if r19 then (some (.inr 1)) else (some (.inl ())))
noncomputable def y5o (l1:(List jd)) (k3:Nat) (x6:jd):Option (Unit ⊕ (Int)):=
 (z2n x6.Key).bind fun r9=>if !r9 then (some (.inr 5)) else (if decide (0 < (k3:Int)) then ((at? l1 ((k3:Int) - 1)).bind fun (x14:jd)=>z7k x6 (Op.bytesLess x6.Key x14.Key || x6.Key == x14.Key)) else (z7k x6 false))
noncomputable def y5p:Option (Int):=
 some 0
noncomputable def y7t (l1:(List jd)):Option (Int):=
 if decide (50 < (l1.length:Int)) then some 2 else (if l1.length≤1000000000 then forL (fun (k:Nat) (x:jd) (s:Unit)=>y5o l1 k x) (fun (s:Unit)=>y5p) 0 l1 () else none)
noncomputable def y5i (k3:Nat) (x6:jd) (sum2:Int):Option (Int ⊕ (Int)):=
 some (.inl (wr (sum2+x6.Weight)))
noncomputable def y5j (sum2:Int):Option (Int):=
 some sum2
noncomputable def y7s (l1:(List jd)):Option (Int):=
 if l1.length≤1000000000 then forL (fun (k:Nat) (x:jd) (s:Int)=>y5i k x s) (fun (s:Int)=>y5j s) 0 l1 0 else none
noncomputable def z7j (v39:Int) (v40:(List Int)):Option ((Int×(List Int)) ⊕ (((List Int)×(List Bs)) ⊕ ((List Bs)×Int))):=
 some (.inl (v39,v40))
noncomputable def y5k (k21:Nat) (x24:jd) (v19:Int) (l20:(List Int)):Option ((Int×(List Int)) ⊕ (((List Int)×(List Bs)) ⊕ ((List Bs)×Int))):=
 (l20[k21]?).bind fun (x32:Int)=>((l20.set k21 (wr (x32+x24.Weight)))[k21]?).bind fun (x34:Int)=>(at? (l20.set k21 (wr (x32+x24.Weight))) v19).bind fun (x36:Int)=>if decide (x36 < x34) then (z7j (k21:Int) (l20.set k21 (wr (x32+x24.Weight)))) else (z7j v19 (l20.set k21 (wr (x32+x24.Weight))))
noncomputable def y5m (v1:(List jd)) (r11:(Int)) (l14:(List Bs)) (v19:Int) (l20:(List Int)):Option (((List Int)×(List Bs)) ⊕ ((List Bs)×Int)):=
 (at? l20 v19).bind fun (x25:Int)=>(at? v1 v19).bind fun (x27:jd)=>if l14.length+1≤1000000000 then (some (.inl ((l20.set v19.toNat (wr (x25 - r11))),(l14++[x27.Key])))) else none
noncomputable def y5l (v1:(List jd)) (r11:(Int)) (k15:Nat) (l13:(List Int)) (l14:(List Bs)):Option (((List Int)×(List Bs)) ⊕ ((List Bs)×Int)):=
 if v1.length≤1000000000 then forL (fun (k:Nat) (x:jd) (s:Int×(List Int))=>y5k k x s.1 s.2) (fun (s:Int×(List Int))=>y5m v1 r11 l14 s.1 s.2) 0 v1 (0,l13) else none
noncomputable def y5n (l13:(List Int)) (l14:(List Bs)):Option ((List Bs)×Int):=
 some (l14,0)
noncomputable def y2z (v1:(List jd)) (v2:Int):Option ((List Bs)×Int):=
 (y7t v1).bind fun r3=>if decide (r3≠0) then (some ([],r3)) else ((Qu v2 0 2000).bind fun r6=>if r6 then (some ([],1)) else (if decide ((v1.length:Int)=0) then (some ([],8)) else (if v1.length≤1000000000 then ((y7s v1).bind fun r11=>if v2≤1000000000 then rng (fun (k:Nat) (s:(List Int)×(List Bs))=>y5l v1 r11 k s.1 s.2) (fun (s:(List Int)×(List Bs))=>y5n s.1 s.2) v2.toNat 0 ((List.replicate v1.length 0),[]) else none) else none)))
noncomputable def z9l  : Option ((List Bs)×(List Int)):=
 some ([[109,97,120,45,97,103,101],[115,45,109,97,120,97,103,101],[115,116,97,108,101,45,119,104,105,108,101,45,114,101,118,97,108,105,100,97,116,101],[115,116,97,108,101,45,105,102,45,101,114,114,111,114],[109,97,120,45,115,116,97,108,101],[109,105,110,45,102,114,101,115,104]],([6,7,8,9,10,11]:List Int))
noncomputable def Ql (out22:(List Bs)):Option ((List Bs) ⊕ ((List Bs) ⊕ ((List Bs)))):=
 some (.inl out22)
noncomputable def Qj (k12:Nat) (x15:Bs) (l11:(List Bs)):Option ((List Bs) ⊕ ((List Bs) ⊕ ((List Bs)))):=
 (Zr x15 [32]).bind fun r18=>if decide (r18≠[]) then (if l11.length+1≤1000000000 then (Ql (l11++[r18])) else none) else (Ql l11)
noncomputable def z44 (l11:(List Bs)):Option ((List Bs) ⊕ ((List Bs))):=
 some (.inl l11)
noncomputable def Qk (k3:Nat) (x6:Bs) (l2:(List Bs)):Option ((List Bs) ⊕ ((List Bs))):=
 (vz x6 [44]).bind fun r9=>if r9.length≤1000000000 then forL (fun (k:Nat) (x:Bs) (s:(List Bs))=>Qj k x s) (fun (s:(List Bs))=>z44 s) 0 r9 l2 else none
noncomputable def z45 (l2:(List Bs)):Option ((List Bs)):=
 some l2
noncomputable def z0p (values1:(List Bs)):Option ((List Bs)):=
 if values1.length≤1000000000 then forL (fun (k:Nat) (x:Bs) (s:(List Bs))=>Qk k x s) (fun (s:(List Bs))=>z45 s) 0 values1 [] else none
noncomputable def z69 (r2:(Int×Bool)) (v9:Bool):Option (Int×Bool):=
 some (r2.1,v9)
noncomputable def z5z (s1:Bs):Option (Int×Bool):=
 (z0r s1).bind fun r2=>if r2.2 then ((Qu r2.1 0 100000000).bind fun r6=>z69 r2 (!r6)) else (z69 r2 false)
noncomputable def y3k  : Option ((List Bs)×(List Int)):=
 some ([[110,111,45,115,116,111,114,101],[110,111,45,99,97,99,104,101],[112,114,105,118,97,116,101],[112,117,98,108,105,99],[109,117,115,116,45,114,101,118,97,108,105,100,97,116,101],[111,110,108,121,45,105,102,45,99,97,99,104,101,100]],([0,1,2,3,4,5]:List Int))
noncomputable def z67 (r3:(Bs×Bs×Bool)) (c41:Bool) (c42:Bool) (c43:Bool) (c44:Bool) (c45:Bool) (c46:Bool) (c47:Int) (c48:Int) (c49:Int) (c50:Int) (c51:Int) (c52:Int):Option (Bool×yh):=
 some (r3.2.2,(yh.mk c41 c42 c43 c44 c45 c46 c47 c48 c49 c50 c51 c52))
noncomputable def z66 (s1:yh) (r3:(Bs×Bs×Bool)) (r5:(Int×Bool)) (r22:((List Bs)×(List Int))) (r24:(Int)) (v34:Bool):Option (Bool×yh):=
 if v34 then ((at? r22.2 r24).bind fun (x36:Int)=>if xn x36=true then ((some (xw s1 x36 r5.1)).bind fun (c39:yh)=>z67 r3 c39.NoStore c39.NoCache c39.Private c39.Public c39.Must c39.Only c39.MaxAge c39.Shared c39.Stale c39.OnError c39.MaxStale c39.MinFresh) else none) else (z67 r3 s1.NoStore s1.NoCache s1.Private s1.Public s1.Must s1.Only s1.MaxAge s1.Shared s1.Stale s1.OnError s1.MaxStale s1.MinFresh)
noncomputable def z5x (s1:yh) (v2:Bs):Option (Bool×yh):=
 (vq v2 [61]).bind fun r3=>(z5z r3.2.1).bind fun r5=>(Ym r3.1).bind fun r7=>if ((!r7) || (r3.2.2 && (!r5.2))) then (some (false,s1)) else ((jv r3.1).bind fun r10=>(y3k).bind fun r12=>(Qp r12.1 r10).bind fun r14=>if decide (0≤r14) then ((at? r12.2 r14).bind fun (x17:Int)=>if y0v x17=true then ((some (um s1 x17 true)).bind fun (c20:yh)=>some (!r3.2.2,c20)) else none) else ((z9l).bind fun r22=>(Qp r22.1 r10).bind fun r24=>if decide (r24 < 0) then (some (true,s1)) else ((at? r22.2 r24).bind fun (x27:Int)=>if xn x27=true then (if decide ((jz s1 x27)=(-1)) then (z66 s1 r3 r5 r22 r24 true) else (if xn x27=true then (z66 s1 r3 r5 r22 r24 (decide (r5.1 < (jz s1 x27)))) else none)) else none)))
noncomputable def z07 (k36:Nat) (x39:Bs) (c24:Bool) (c25:Bool) (c26:Int) (c27:Int) (c28:Bool) (c29:Bool) (c30:Bool) (c31:Bool) (c32:Int) (c33:Int) (c34:Int) (c35:Int):Option ((Bool×Bool×Int×Int×Bool×Bool×Bool×Bool×Int×Int×Int×Int) ⊕ (yh×Int)):=
 (z5x (yh.mk c24 c25 c28 c29 c30 c31 c32 c33 c34 c35 c26 c27) x39).bind fun r42=>if !r42.1 then (some (.inr ((yh.mk false false false false false false 0 0 0 0 0 0),9))) else (some (.inl (r42.2.NoStore,r42.2.NoCache,r42.2.MaxStale,r42.2.MinFresh,r42.2.Private,r42.2.Public,r42.2.Must,r42.2.Only,r42.2.MaxAge,r42.2.Shared,r42.2.Stale,r42.2.OnError)))
noncomputable def y41 (c24:Bool) (c25:Bool) (c26:Int) (c27:Int) (c28:Bool) (c29:Bool) (c30:Bool) (c31:Bool) (c32:Int) (c33:Int) (c34:Int) (c35:Int):Option (yh×Int):=
 some ((yh.mk c24 c25 c28 c29 c30 c31 c32 c33 c34 c35 c26 c27),0)
noncomputable def x0j (k16:Nat) (x19:Int) (c4:Bool) (c5:Bool) (c6:Int) (c7:Int) (c8:Bool) (c9:Bool) (c10:Bool) (c11:Bool) (c12:Int) (c13:Int) (c14:Int) (c15:Int):Option ((Bool×Bool×Int×Int×Bool×Bool×Bool×Bool×Int×Int×Int×Int) ⊕ (yh×Int)):=
 if xn x19=true then ((some (xw (yh.mk c4 c5 c8 c9 c10 c11 c12 c13 c14 c15 c6 c7) x19 (-1))).bind fun (c48:yh)=>some (.inl (c48.NoStore,c48.NoCache,c48.MaxStale,c48.MinFresh,c48.Private,c48.Public,c48.Must,c48.Only,c48.MaxAge,c48.Shared,c48.Stale,c48.OnError))) else none
noncomputable def z08 (l1:(List zg)) (c4:Bool) (c5:Bool) (c6:Int) (c7:Int) (c8:Bool) (c9:Bool) (c10:Bool) (c11:Bool) (c12:Int) (c13:Int) (c14:Int) (c15:Int):Option (yh×Int):=
 (ve l1 [99,97,99,104,101,45,99,111,110,116,114,111,108]).bind fun r20=>(z0p r20).bind fun r22=>if r22.length≤1000000000 then forL (fun (k:Nat) (x:Bs) (s:Bool×Bool×Int×Int×Bool×Bool×Bool×Bool×Int×Int×Int×Int)=>z07 k x s.1 s.2.1 s.2.2.1 s.2.2.2.1 s.2.2.2.2.1 s.2.2.2.2.2.1 s.2.2.2.2.2.2.1 s.2.2.2.2.2.2.2.1 s.2.2.2.2.2.2.2.2.1 s.2.2.2.2.2.2.2.2.2.1 s.2.2.2.2.2.2.2.2.2.2.1 s.2.2.2.2.2.2.2.2.2.2.2) (fun (s:Bool×Bool×Int×Int×Bool×Bool×Bool×Bool×Int×Int×Int×Int)=>y41 s.1 s.2.1 s.2.2.1 s.2.2.2.1 s.2.2.2.2.1 s.2.2.2.2.2.1 s.2.2.2.2.2.2.1 s.2.2.2.2.2.2.2.1 s.2.2.2.2.2.2.2.2.1 s.2.2.2.2.2.2.2.2.2.1 s.2.2.2.2.2.2.2.2.2.2.1 s.2.2.2.2.2.2.2.2.2.2.2) 0 r22 (c4,c5,c6,c7,c8,c9,c10,c11,c12,c13,c14,c15) else none
noncomputable def km (l1:(List zg)):Option (yh×Int):=
 (z9l).bind fun r2=>if r2.2.length≤1000000000 then forL (fun (k:Nat) (x:Int) (s:Bool×Bool×Int×Int×Bool×Bool×Bool×Bool×Int×Int×Int×Int)=>x0j k x s.1 s.2.1 s.2.2.1 s.2.2.2.1 s.2.2.2.2.1 s.2.2.2.2.2.1 s.2.2.2.2.2.2.1 s.2.2.2.2.2.2.2.1 s.2.2.2.2.2.2.2.2.1 s.2.2.2.2.2.2.2.2.2.1 s.2.2.2.2.2.2.2.2.2.2.1 s.2.2.2.2.2.2.2.2.2.2.2) (fun (s:Bool×Bool×Int×Int×Bool×Bool×Bool×Bool×Int×Int×Int×Int)=>z08 l1 s.1 s.2.1 s.2.2.1 s.2.2.2.1 s.2.2.2.2.1 s.2.2.2.2.2.1 s.2.2.2.2.2.2.1 s.2.2.2.2.2.2.2.1 s.2.2.2.2.2.2.2.2.1 s.2.2.2.2.2.2.2.2.2.1 s.2.2.2.2.2.2.2.2.2.2.1 s.2.2.2.2.2.2.2.2.2.2.2) 0 r2.2 (false,false,0,0,false,false,false,false,0,0,0,0) else none
noncomputable def Qt (l1:(List Bs)):Option ((List Bs)):=
 (jj l1).bind fun r2=>(Zt r2).bind fun r4=>(z0i r4).bind fun r6=>some r6
noncomputable def z3u (k7:Nat) (l6:(List Bs)):Option ((List Bs) ⊕ ((List Bs)×Bool×Int)):=
 (l6[k7]?).bind fun (x17:Bs)=>(Ym x17).bind fun r19=>if !r19 then (some (.inr ([],false,9))) else ((jv x17).bind fun r22=>some (.inl (l6.set k7 r22)))
noncomputable def z06 (l6:(List Bs)):Option ((List Bs)×Bool×Int):=
 (Qq l6 [42]).bind fun r10=>if r10 then (some ([],true,0)) else ((Qt l6).bind fun r13=>if decide (10 < (r13.length:Int)) then (some ([],false,2)) else (some (r13,false,0)))
noncomputable def xk (a1:yb):Option ((List Bs)×Bool×Int):=
 (ve a1.Headers [118,97,114,121]).bind fun r2=>(z0p r2).bind fun r4=>if r4.length≤1000000000 then rng (fun (k:Nat) (s:(List Bs))=>z3u k s) (fun (s:(List Bs))=>z06 s) r4.length 0 r4 else none
noncomputable def Yp (c1:yh):Option (Int):=
 if c1.NoCache then some 0 else (if decide (c1.Shared≠(-1)) then (some (wr (c1.Shared * 1000))) else (if decide (c1.MaxAge≠(-1)) then (some (wr (c1.MaxAge * 1000))) else some 0))
noncomputable def z9n (a1:yb):Option (Int×Int):=
 (kl a1).bind fun r2=>if decide (r2≠0) then (some (0,r2)) else ((km a1.Headers).bind fun r5=>if decide (r5.2≠0) then (some (0,r5.2)) else ((xk a1).bind fun r8=>if decide (r8.2.2≠0) then (some (0,r8.2.2)) else ((Yp r5.1).bind fun r11=>some (r11,0))))
noncomputable def y54 (x6:Int) (k11:Nat) (l10:(List Int)):Option ((List Int) ⊕ ((Bs×(List Int)) ⊕ (Bs))):=
 if (0:Int)≤(wr (18 - (wr (6 * (k11:Int))))) then ((at? [65,66,67,68,69,70,71,72,73,74,75,76,77,78,79,80,81,82,83,84,85,86,87,88,89,90,97,98,99,100,101,102,103,104,105,106,107,108,109,110,111,112,113,114,115,116,117,118,119,120,121,122,48,49,50,51,52,53,54,55,56,57,45,95] (and_ .i64 (shr_ .i64 x6 (wr (18 - (wr (6 * (k11:Int)))))) 63)).bind fun (x18:UInt8)=>if l10.length+1≤1000000000 then (some (.inl (l10++[(x18.toNat:Int)]))) else none) else none
noncomputable def y57 (s2:Bs) (l10:(List Int)):Option ((Bs×(List Int)) ⊕ (Bs)):=
 (sub? s2 (min 3 (s2.length:Int)) (s2.length:Int)).bind fun (l14:Bs)=>some (.inl (l14,l10))
noncomputable def z73 (x25:Int):Option (Int ⊕ ((Bs×(List Int)) ⊕ (Bs))):=
 some (.inl x25)
noncomputable def y55 (s2:Bs) (k7:Nat) (x6:Int):Option (Int ⊕ ((Bs×(List Int)) ⊕ (Bs))):=
 if decide ((k7:Int) < (min 3 (s2.length:Int))) then ((s2[k7]?).bind fun (x23:UInt8)=>z73 (or_ .i64 (shl_ .i64 x6 8) (IntKind.wrap .i64 (x23.toNat:Int)))) else (z73 (shl_ .i64 x6 8))
noncomputable def y58 (s2:Bs) (l3:(List Int)) (x6:Int):Option ((Bs×(List Int)) ⊕ (Bs)):=
 if (wr ((min 3 (s2.length:Int))+1))≤1000000000 then rng (fun (k:Nat) (s:(List Int))=>y54 x6 k s) (fun (s:(List Int))=>y57 s2 s) ((wr ((min 3 (s2.length:Int))+1)).toNat) 0 l3 else none
noncomputable def y1o (out26:(List Int)):Option (Bs):=
 some (strN out26)
noncomputable def y56 (s2:Bs) (l3:(List Int)):Option ((Bs×(List Int)) ⊕ (Bs)):=
 if decide (0 < (s2.length:Int)) then (if 3≤1000000000 then rng (fun (k:Nat) (s:Int)=>y55 s2 k s) (fun (s:Int)=>y58 s2 l3 s) 3 0 0 else none) else (Option.map .inr (y1o l3))
noncomputable def z8x (s1:Bs):Option (Bs):=
 iter (fun (s:Bs×(List Int))=>y56 s.1 s.2) (s1,[])
noncomputable def Ya (v27:Bool):Option (Bool):=
 some v27
noncomputable def z9a  : Option (Bool):=
 (Qs [47,97,47,46,46,47,98]).bind fun r1=>(y2z ([(jd.mk [97] 1)]) 2).bind fun r3=>(z9n (yb.mk 200 ([(zg.mk [99,97,99,104,101,45,99,111,110,116,114,111,108] [109,97,120,45,97,103,101,61,50])]) [])).bind fun r5=>if decide (r1.2=0) then (if decide (r1.1=[47,98]) then (if decide (r3.2=0) then (if decide ((r3.1.length:Int)=2) then (if decide (r5.2=0) then (if decide (r5.1=2000) then ((z8x [97,98]).bind fun r19=>Ya (decide (r19=[89,87,73]))) else (Ya false)) else (Ya false)) else (Ya false)) else (Ya false)) else (Ya false)) else (Ya false)
noncomputable def z50 (method1:Bs):Option (Bool):=
 (Qq ([[71,69,84],[72,69,65,68],[79,80,84,73,79,78,83],[84,82,65,67,69]]) method1).bind fun r2=>some (!r2)
noncomputable def Qw (l1:(List zg)) (name2:Bs):Option (Bool):=
 (ve l1 name2).bind fun r3=>some (decide (0 < (r3.length:Int)))
noncomputable def y3i (method1:Bs):Option (Bool):=
 some ((decide (method1=[71,69,84])) || (decide (method1=[72,69,65,68])))
noncomputable def y6r (v2:Int) (k3:Nat) (x6:Int):Option (Unit ⊕ (Int)):=
 if decide (v2=x6) then (some (.inr (k3:Int))) else (some (.inl ()))
noncomputable def y6s:Option (Int):=
 some (-1)
noncomputable def y7y (s1:(List Int)) (v2:Int):Option (Int):=
 if s1.length≤1000000000 then forL (fun (k:Nat) (x:Int) (s:Unit)=>y6r v2 k x) (fun (s:Unit)=>y6s) 0 s1 () else none
noncomputable def y23 (s1:(List Int)) (v2:Int):Option (Bool):=
 (y7y s1 v2).bind fun r3=>some (decide (0≤r3))
noncomputable def y3j (status1:Int):Option (Bool):=
 (y23 [200,203,204,300,301,404,410] status1).bind fun r2=>some r2
noncomputable def ka (v46:Bool):Option (Bool×Int):=
 some (v46,0)
noncomputable def z5y (v1:zw) (v2:yb):Option (Bool×Int):=
 (km v1.Headers).bind fun r3=>if decide (r3.2≠0) then (some (false,r3.2)) else ((km v2.Headers).bind fun r6=>if decide (r6.2≠0) then (some (false,r6.2)) else ((xk v2).bind fun r9=>if decide (r9.2.2≠0) then (some (false,r9.2.2)) else ((Qw v1.Headers [97,117,116,104,111,114,105,122,97,116,105,111,110]).bind fun r12=>(y3i v1.Method).bind fun r14=>if r14 then ((y3j v2.Status).bind fun r18=>if r18 then (if !r3.1.NoStore then (if !r6.1.NoStore then (if !r6.1.Private then (if !(((r12 && (!r6.1.Public)) && (!r6.1.Must)) && (decide (r6.1.Shared=(-1)))) then (if !r9.2.1 then ((Yp r6.1).bind fun r32=>if decide (0 < r32) then (ka true) else ((Qw v2.Headers [101,116,97,103]).bind fun r36=>ka r36)) else (ka false)) else (ka false)) else (ka false)) else (ka false)) else (ka false)) else (ka false)) else (ka false))))
noncomputable def z0t (r1:Int):Option (Bool):=
 some ((decide (r1=32)) || (decide (r1=44)))
noncomputable def z3v (l4:(List Bs)) (k9:Nat):Option (Unit ⊕ ((List Bs)×Int)):=
 (l4[k9]?).bind fun (x16:Bs)=>(z2n x16).bind fun r18=>if !r18 then (some (.inr ([],5))) else (some (.inl ()))
noncomputable def y0w (l4:(List Bs)):Option ((List Bs)×Int):=
 (Qt l4).bind fun r12=>if decide (20 < (r12.length:Int)) then (some ([],2)) else (some (r12,0))
noncomputable def z3w (k5:Nat) (x8:Bs) (l4:(List Bs)):Option ((List Bs) ⊕ ((List Bs)×Int)):=
 (z5d x8 (fun (a0:Int)=>z0t a0)).bind fun r23=>if l4.length+r23.length≤1000000000 then (some (.inl (l4++r23))) else none
noncomputable def z68 (l4:(List Bs)):Option ((List Bs)×Int):=
 if l4.length≤1000000000 then rng (fun (k:Nat) (s:Unit)=>z3v l4 k) (fun (s:Unit)=>y0w l4) l4.length 0 () else none
noncomputable def z9k (a1:yb):Option ((List Bs)×Int):=
 (ve a1.Headers [99,97,99,104,101,45,116,97,103]).bind fun r2=>if r2.length≤1000000000 then forL (fun (k:Nat) (x:Bs) (s:(List Bs))=>z3w k x s) (fun (s:(List Bs))=>z68 s) 0 r2 [] else none
noncomputable def y6t (p1:Bs→Option (Bool)) (k2:Nat) (x5:Bs):Option (Unit ⊕ (Int)):=
 (p1 x5).bind fun r8=>if r8 then (some (.inr (k2:Int))) else (some (.inl ()))
noncomputable def y6u:Option (Int):=
 some (-1)
noncomputable def y7z (s1:(List Bs)) (p1:Bs→Option (Bool)):Option (Int):=
 if s1.length≤1000000000 then forL (fun (k:Nat) (x:Bs) (s:Unit)=>y6t p1 k x) (fun (s:Unit)=>y6u) 0 s1 () else none
noncomputable def z5j (s1:(List Bs)) (p1:Bs→Option (Bool)):Option (Bool):=
 (y7z s1 p1).bind fun r2=>some (decide (0≤r2))
noncomputable def y13 (s2:(List Bs)) (k4:Nat) (x7:Bs):Option (Unit ⊕ (Bool)):=
 (s2[k4]?).bind fun (x10:Bs)=>if decide (x7≠x10) then (some (.inr false)) else (some (.inl ()))
noncomputable def y6z:Option (Bool):=
 some true
noncomputable def z5g (s1:(List Bs)) (s2:(List Bs)):Option (Bool):=
 if decide ((s1.length:Int)≠(s2.length:Int)) then some false else (if s1.length≤1000000000 then forL (fun (k:Nat) (x:Bs) (s:Unit)=>y13 s2 k x) (fun (s:Unit)=>y6z) 0 s1 () else none)
noncomputable def z2u (n1:Bs) (c2:zw) (c3:zw):Option (Bool):=
 (ve c2.Headers n1).bind fun r4=>(ve c3.Headers n1).bind fun r6=>(z5g r4 r6).bind fun r8=>some (!r8)
noncomputable def z0u (own1:zw) (a2:yb) (r3:zw):Option (Bool):=
 if ((((decide (own1.Host≠r3.Host)) || (decide (own1.Path≠r3.Path))) || (decide (own1.Query≠r3.Query))) || ((decide (own1.Method≠r3.Method)) && (!((decide (own1.Method=[71,69,84])) && (decide (r3.Method=[72,69,65,68])))))) then some false else ((xk a2).bind fun r5=>if (r5.2.1 || (decide (r5.2.2≠0))) then some false else ((z5j r5.1 (fun (a0:Bs)=>z2u a0 own1 r3)).bind fun r8=>some (!r8)))
noncomputable def z54 (r1:zw):Option (zw):=
 (jj r1.Headers).bind fun r2=>some (zw.mk r1.At r1.Method r1.Host r1.Path r1.Query r1.From r2 r1.Body)
noncomputable def z2w (a1:yb):Option (yb):=
 (jj a1.Headers).bind fun r2=>some (yb.mk a1.Status r2 a1.Body)
noncomputable def y40 (k3:Nat) (x6:zg) (n2:Int):Option (Int ⊕ (Int)):=
 some (.inl (wr (n2+(wr ((x6.Name.length:Int)+(x6.Value.length:Int))))))
noncomputable def x0i (n2:Int):Option (Int):=
 some n2
noncomputable def z2v (e1:uj):Option (Int):=
 if e1.Response.Headers.length≤1000000000 then forL (fun (k:Nat) (x:zg) (s:Int)=>y40 k x s) (fun (s:Int)=>x0i s) 0 e1.Response.Headers (wr ((wr ((wr ((wr ((e1.Request.Host.length:Int)+(e1.Request.Path.length:Int)))+(e1.Request.Query.length:Int)))+(e1.Response.Body.length:Int)))+100)) else none
noncomputable def z09 (e1:uj) (v2:Int) (n11:Int):Option (Int):=
 some (wr ((wr (v2 - e1.At))+(wr (n11 * 1000))))
noncomputable def z55 (e1:uj) (v2:Int):Option (Int):=
 (ve e1.Response.Headers [97,103,101]).bind fun r3=>if decide (0 < (r3.length:Int)) then ((r3[0]?).bind fun (x6:Bs)=>(z5z x6).bind fun r8=>if r8.2 then (z09 e1 v2 r8.1) else (z09 e1 v2 0)) else (z09 e1 v2 0)
noncomputable def y3l (n1:Int) (most2:Int):Option (Bool):=
 some ((decide (most2=(-1))) || (decide (n1≤(wr (most2 * 1000)))))
noncomputable def We (v1:yh) (v2:yh) (v3:Int) (r4:(Int)) (v19:Bool):Option (Int):=
 if v19 then some 1 else (if ((decide ((wr (v3 - r4)) < 0)) || v2.Must) then some 3 else (if ((decide (v1.MaxStale≠(-1))) && (decide ((wr (v3 - r4))≤(wr (v1.MaxStale * 1000))))) then some 1 else (if (((decide (v2.Stale≠(-1))) && (decide ((wr (v3 - r4)) < (wr (v2.Stale * 1000))))) && (decide (v1.MaxAge=(-1)))) then some 2 else some 3)))
noncomputable def z52 (v1:yh) (v2:yh) (v3:Int):Option (Int):=
 (Yp v2).bind fun r4=>if (v1.NoCache || v2.NoCache) then some 3 else (if decide ((wr (v3 - r4)) < 0) then ((y3l v3 v1.MaxAge).bind fun r9=>if r9 then (if decide (v1.MinFresh=(-1)) then (We v1 v2 v3 r4 true) else (if -9223372036854775807≤v1.MinFresh∧v1.MinFresh≤9223372036854775807 then (We v1 v2 v3 r4 (decide ((wr (v3 - r4))≤(wr ((-v1.MinFresh) * 1000))))) else none)) else (We v1 v2 v3 r4 false)) else (We v1 v2 v3 r4 false))
noncomputable def z7a (s1:wx) (r4:(yb)) (v19:(List zg)) (c21:Bs):Option (yb×wx):=
 some ((yb.mk r4.Status v19 c21),s1)
noncomputable def z3y (s1:wx) (v2:zw) (r4:(yb)) (v19:(List zg)):Option (yb×wx):=
 if decide (v2.Method=[72,69,65,68]) then (z7a s1 r4 v19 []) else (z7a s1 r4 v19 r4.Body)
noncomputable def z3x (v30:Bool) (v31:(List zg)):Option ((Bool×(List zg)) ⊕ (yb×wx)):=
 some (.inl (v30,v31))
noncomputable def y42 (r9:(Bs)) (k13:Nat) (x16:zg) (v11:Bool) (l12:(List zg)):Option ((Bool×(List zg)) ⊕ (yb×wx)):=
 (z2e x16.Name [97,103,101]).bind fun r24=>if !r24 then (if l12.length+1≤1000000000 then (z3x v11 (l12++[x16])) else none) else (if !v11 then (if l12.length+1≤1000000000 then (z3x true (l12++[(zg.mk x16.Name r9)])) else none) else (z3x v11 l12))
noncomputable def y43 (s1:wx) (v2:zw) (r4:(yb)) (r9:(Bs)) (v11:Bool) (l12:(List zg)):Option (yb×wx):=
 if !v11 then (if l12.length+1≤1000000000 then (z3y s1 v2 r4 (l12++([(zg.mk [97,103,101] r9)]))) else none) else (z3y s1 v2 r4 l12)
noncomputable def z9m (s1:wx) (v2:zw) (v3:Int):Option (yb×wx):=
 (z2w s1.Entry.Response).bind fun r4=>(z55 s1.Entry v3).bind fun r6=>if ((0:Int)≤r6∧r6≤9223372036854775807)∧(0:Int) < 1000 then ((xz (r6 / 1000)).bind fun r9=>if r4.Headers.length≤1000000000 then forL (fun (k:Nat) (x:zg) (s:Bool×(List zg))=>y42 r9 k x s.1 s.2) (fun (s:Bool×(List zg))=>y43 s1 v2 r4 r9 s.1 s.2) 0 r4.Headers (false,[]) else none) else none
noncomputable def y60 (s2:(List zg)) (k4:Nat) (x7:zg):Option (Unit ⊕ (Bool)):=
 (s2[k4]?).bind fun (x10:zg)=>if (!((x7.Name == x10.Name) && ((x7.Value == x10.Value) && true))) then (some (.inr false)) else (some (.inl ()))
noncomputable def y61:Option (Bool):=
 some true
noncomputable def y22 (s1:(List zg)) (s2:(List zg)):Option (Bool):=
 if decide ((s1.length:Int)≠(s2.length:Int)) then some false else (if s1.length≤1000000000 then forL (fun (k:Nat) (x:zg) (s:Unit)=>y60 s2 k x) (fun (s:Unit)=>y61) 0 s1 () else none)
/- models of functions that this seat does not reach: for the plain texts alone -/
structure ut where
 first_:Bs
 headers_:(List zg)
 rest_:Bs
noncomputable def y79 (a1:Bs) (b2:Bs):Option (Bool):=
 (jv a1).bind fun r3=>(jv b2).bind fun r5=>some (decide (r3=r5))
noncomputable def xc (n1:Int) (low2:Int) (high3:Int):Option (Bool):=
 some ((decide (low2≤n1)) && (decide (n1≤high3)))
noncomputable def x7d (some2:Bs) (k3:Nat) (x6:UInt8):Option (Unit ⊕ (Bool)):=
 (z2d some2 (x6.toNat:Int)).bind fun r9=>if decide (r9 < 0) then (some (.inr false)) else (some (.inl ()))
noncomputable def w9e:Option (Bool):=
 some true
noncomputable def xj (s1:Bs) (some2:Bs):Option (Bool):=
 if s1.length≤1000000000 then forL (fun (k:Nat) (x:UInt8) (s:Unit)=>x7d some2 k x) (fun (s:Unit)=>w9e) 0 s1 () else none
noncomputable def y9p (v9:Bool):Option (Bool):=
 some v9
noncomputable def z2q (s1:Bs):Option (Bool):=
 (xc (s1.length:Int) 1 100).bind fun r2=>if r2 then ((xj s1 [97,98,99,100,101,102,103,104,105,106,107,108,109,110,111,112,113,114,115,116,117,118,119,120,121,122,65,66,67,68,69,70,71,72,73,74,75,76,77,78,79,80,81,82,83,84,85,86,87,88,89,90,48,49,50,51,52,53,54,55,56,57,33,35,36,37,38,39,42,43,45,46,94,95,96,124,126]).bind fun r6=>y9p r6) else (y9p false)
noncomputable def y9m (v12:Bool):Option (Unit ⊕ (Bool)):=
 if v12 then (some (.inr false)) else (some (.inl ()))
noncomputable def x7b (low2:Int) (k3:Nat) (x6:UInt8):Option (Unit ⊕ (Bool)):=
 if decide ((x6.toNat:Int) < low2) then (y9m true) else (y9m (decide (126 < (x6.toNat:Int))))
noncomputable def w9c:Option (Bool):=
 some true
noncomputable def z2p (s1:Bs) (low2:Int):Option (Bool):=
 if s1.length≤1000000000 then forL (fun (k:Nat) (x:UInt8) (s:Unit)=>x7b low2 k x) (fun (s:Unit)=>w9c) 0 s1 () else none
noncomputable def y9t (v12:Bool):Option (Bool):=
 some v12
noncomputable def y3h (s1:Bs):Option (Bool):=
 if decide ((s1.length:Int)≤2000) then ((z2p s1 32).bind fun r4=>if r4 then ((Zr s1 [32]).bind fun r8=>y9t (decide (r8=s1))) else (y9t false)) else (y9t false)
noncomputable def y4c (r2:(Bs×Bs×Bool)) (l6:(List zg)) (r8:(Bs×Bs×Bool)) (r12:(Bs×Bs×Bool)) (r14:(Bs)) (v26:Bool):Option ((Bs×(List zg)) ⊕ (ut×Int)):=
 if v26 then (some (.inr ((ut.mk r2.1 l6 []),9))) else (if l6.length+1≤1000000000 then (some (.inl (r8.2.1,(l6++[(zg.mk r12.1 r14)])))) else none)
noncomputable def w9f (r2:(Bs×Bs×Bool)) (l29:(List zg)) (c30:Bs):Option (ut×Int):=
 some ((ut.mk r2.1 l29 c30),0)
noncomputable def Wc (r2:(Bs×Bs×Bool)) (v5:Bs) (l6:(List zg)):Option ((Bs×(List zg)) ⊕ (ut×Int)):=
 (vq v5 [13,10]).bind fun r8=>if !r8.2.2 then (some (.inr ((ut.mk r2.1 l6 []),9))) else (if decide (r8.1=[]) then (Option.map .inr (w9f r2 l6 r8.2.1)) else ((vq r8.1 [58]).bind fun r12=>(Zr r12.2.1 [32]).bind fun r14=>if !r12.2.2 then (y4c r2 l6 r8 r12 r14 true) else ((z2q r12.1).bind fun r18=>if !r18 then (y4c r2 l6 r8 r12 r14 true) else ((y3h r14).bind fun r22=>y4c r2 l6 r8 r12 r14 (!r22)))))
noncomputable def y3a (v1:Bs):Option (ut×Int):=
 (vq v1 [13,10]).bind fun r2=>if !r2.2.2 then (some ((ut.mk r2.1 [] []),9)) else (iter (fun (s:Bs×(List zg))=>Wc r2 s.1 s.2) (r2.2.1,([]:List zg)))
noncomputable def y9o (out14:(List Bs)):Option ((List Bs) ⊕ ((List Bs))):=
 some (.inl out14)
noncomputable def y0j (name2:Bs) (k4:Nat) (x7:zg) (l3:(List Bs)):Option ((List Bs) ⊕ ((List Bs))):=
 (y79 x7.Name name2).bind fun r10=>if r10 then (if l3.length+1≤1000000000 then (y9o (l3++[x7.Value])) else none) else (y9o l3)
noncomputable def x7e (l3:(List Bs)):Option ((List Bs)):=
 some l3
noncomputable def Ze (l1:(List zg)) (name2:Bs):Option ((List Bs)):=
 if l1.length≤1000000000 then forL (fun (k:Nat) (x:zg) (s:(List Bs))=>y0j name2 k x s) (fun (s:(List Bs))=>x7e s) 0 l1 [] else none
noncomputable def y0g (v15:Bool):Option (Bool):=
 some v15
noncomputable def x48 (s1:Bs):Option (Bool):=
 if decide (s1≠[]) then ((xj s1 [48,49,50,51,52,53,54,55,56,57]).bind fun r4=>if r4 then (if decide (s1=[48]) then (y0g true) else ((s1[0]?).bind fun (x10:UInt8)=>y0g (decide ((x10.toNat:Int)≠48)))) else (y0g false)) else (y0g false)
noncomputable def y9s (r15:(Int×Int)) (v22:Bool):Option (Int×Bool):=
 some (r15.1,v22)
noncomputable def z02 (s1:Bs) (v13:Bool):Option (Int×Bool):=
 if v13 then (some (0,false)) else ((Za s1).bind fun r15=>if decide (r15.2=0) then ((xz r15.1).bind fun r19=>y9s r15 (decide (r19=s1))) else (y9s r15 false))
noncomputable def z0s (s1:Bs) (most2:Int):Option (Int×Bool):=
 (z5c s1 [45]).bind fun r3=>if decide (r3=[]) then (z02 s1 true) else (if decide (most2 < (r3.length:Int)) then (z02 s1 true) else ((xj r3 [48,49,50,51,52,53,54,55,56,57]).bind fun r9=>z02 s1 (!r9)))
noncomputable def x5g (v1:Int):Option (Bool):=
 (xc v1 0 345686399999).bind fun r2=>some r2
noncomputable def x7h (v30:Bs):Option (Bs×Int):=
 some (v30,0)
noncomputable def z6t (v45:Bool):Option (Unit ⊕ (Bs×Int)):=
 if v45 then (some (.inr ([],3))) else (some (.inl ()))
noncomputable def y4l (k21:Nat) (x24:Bs):Option (Unit ⊕ (Bs×Int)):=
 (xc (x24.length:Int) 1 63).bind fun r33=>if !r33 then (z6t true) else ((xj x24 [97,98,99,100,101,102,103,104,105,106,107,108,109,110,111,112,113,114,115,116,117,118,119,120,121,122,65,66,67,68,69,70,71,72,73,74,75,76,77,78,79,80,81,82,83,84,85,86,87,88,89,90,48,49,50,51,52,53,54,55,56,57,45]).bind fun r37=>if !r37 then (z6t true) else ((Zr x24 [45]).bind fun r41=>z6t (decide (r41≠x24))))
noncomputable def y4m (r2:(Bs×Bs×Bool)) (r4:(Int×Bool)):Option (Bs×Int):=
 (jv r2.1).bind fun r25=>if ((r2.2.2 && (decide (r4.1≠80))) && (decide (r4.1≠443))) then (if [58].length+r2.2.1.length≤1000000000 then (if r25.length+([58]++r2.2.1).length≤1000000000 then (x7h (r25++([58]++r2.2.1))) else none) else none) else (x7h r25)
noncomputable def z6u (r2:(Bs×Bs×Bool)) (r4:(Int×Bool)) (v17:Bool):Option (Bs×Int):=
 if v17 then (some ([],3)) else ((vz r2.1 [46]).bind fun r19=>if r19.length≤1000000000 then forL (fun (k:Nat) (x:Bs) (s:Unit)=>y4l k x) (fun (s:Unit)=>y4m r2 r4) 0 r19 () else none)
noncomputable def z5w (v1:Bs):Option (Bs×Int):=
 (vq v1 [58]).bind fun r2=>(z0s r2.2.1 5).bind fun r4=>if decide (255 < (v1.length:Int)) then (z6u r2 r4 true) else (if r2.2.2 then (if !r4.2 then (z6u r2 r4 true) else ((xc r4.1 1 65535).bind fun r12=>z6u r2 r4 (!r12))) else (z6u r2 r4 false))
noncomputable def y0e (v19:Bool):Option (Bool):=
 some v19
noncomputable def y28 (s1:Bs):Option (Bool):=
 (xc (s1.length:Int) 1 1000).bind fun r2=>if r2 then ((s1[0]?).bind fun (x6:UInt8)=>if decide ((x6.toNat:Int)=47) then ((z2p s1 33).bind fun r10=>if r10 then ((z5e s1 [63,35]).bind fun r14=>y0e (!r14)) else (y0e false)) else (y0e false)) else (y0e false)
noncomputable def z01 (v12:Bool):Option (Bool):=
 some v12
noncomputable def Yn (s1:Bs):Option (Bool):=
 if decide ((s1.length:Int)≤1000) then ((z2p s1 33).bind fun r4=>if r4 then ((z0h s1 [35]).bind fun r8=>z01 (!r8)) else (z01 false)) else (z01 false)
noncomputable def x7i (k3:Nat) (x6:zg):Option (Unit ⊕ (Int)):=
 (z2q x6.Name).bind fun r9=>if !r9 then (some (.inr 5)) else ((y3h x6.Value).bind fun r12=>if !r12 then (some (.inr 3)) else (some (.inl ())))
noncomputable def x7j:Option (Int):=
 some 0
noncomputable def y3g (l1:(List zg)):Option (Int):=
 if decide (50 < (l1.length:Int)) then some 2 else (if l1.length≤1000000000 then forL (fun (k:Nat) (x:zg) (s:Unit)=>x7i k x) (fun (s:Unit)=>x7j) 0 l1 () else none)
noncomputable def y4f (r1:zw) (v23:Bool):Option (Int):=
 if v23 then some 3 else ((y3g r1.Headers).bind fun r25=>if decide (r25≠0) then some r25 else (if decide (20000 < (r1.Body.length:Int)) then some 2 else some 0))
noncomputable def y3c (r1:zw):Option (Int):=
 (x5g r1.At).bind fun r2=>if !r2 then some 1 else ((z2q r1.Method).bind fun r5=>if !r5 then some 5 else ((z5w r1.Host).bind fun r8=>if decide (r8.2≠0) then some r8.2 else ((y28 r1.Path).bind fun r11=>if !r11 then (y4f r1 true) else ((Yn r1.Query).bind fun r15=>if !r15 then (y4f r1 true) else ((y3h r1.From).bind fun r19=>y4f r1 (!r19))))))
noncomputable def y8a (a1:yb):Option (Int):=
 (xc a1.Status 100 599).bind fun r2=>if !r2 then some 1 else ((y3g a1.Headers).bind fun r5=>if decide (r5≠0) then some r5 else (if decide (20000 < (a1.Body.length:Int)) then some 2 else some 0))
noncomputable def y8e  : Option (Bool):=
 (Qs [47,97,47,46,46,47,98]).bind fun r1=>some ((decide (r1.2=0)) && (decide (r1.1=[47,98])))
noncomputable def y9n (out17:(List Bs)):Option ((List Bs) ⊕ ((List Bs))):=
 some (.inl out17)
noncomputable def y0f (k7:Nat) (x10:Bs) (l6:(List Bs)):Option ((List Bs) ⊕ ((List Bs))):=
 (Zr x10 [32]).bind fun r13=>if decide (r13≠[]) then (if l6.length+1≤1000000000 then (y9n (l6++[r13])) else none) else (y9n l6)
noncomputable def x7c (l6:(List Bs)):Option ((List Bs)):=
 some l6
noncomputable def y29 (values1:(List Bs)):Option ((List Bs)):=
 (ji values1 [44]).bind fun r2=>(vz r2 [44]).bind fun r4=>if r4.length≤1000000000 then forL (fun (k:Nat) (x:Bs) (s:(List Bs))=>y0f k x s) (fun (s:(List Bs))=>x7c s) 0 r4 [] else none
noncomputable def y0i (k8:Nat) (x11:Bs) (all6:Bool) (l7:(List Bs)):Option ((Bool×(List Bs)) ⊕ ((List Bs)×Bool×Int)):=
 (z2q x11).bind fun r20=>if !r20 then (some (.inr ([],false,9))) else ((jv x11).bind fun r23=>if l7.length+1≤1000000000 then (some (.inl ((all6 || (decide (x11=[42]))),(l7++[r23])))) else none)
noncomputable def y4e (all6:Bool) (l7:(List Bs)):Option ((List Bs)×Bool×Int):=
 if all6 then (some ([],true,0)) else ((Zt l7).bind fun r13=>(z0i r13).bind fun r15=>if decide (10 < (r15.length:Int)) then (some ([],false,2)) else (some (r15,false,0)))
noncomputable def x5d (a1:yb):Option ((List Bs)×Bool×Int):=
 (Ze a1.Headers [118,97,114,121]).bind fun r2=>(y29 r2).bind fun r4=>if r4.length≤1000000000 then forL (fun (k:Nat) (x:Bs) (s:Bool×(List Bs))=>y0i k x s.1 s.2) (fun (s:Bool×(List Bs))=>y4e s.1 s.2) 0 r4 (false,[]) else none
noncomputable def y4k (v16:Bool):Option (Bool):=
 some v16
noncomputable def y3f (s1:Bs):Option (Bool):=
 (xc (s1.length:Int) 1 40).bind fun r2=>if r2 then ((sub? s1 0 1).bind fun (l6:Bs)=>(xj l6 [97,98,99,100,101,102,103,104,105,106,107,108,109,110,111,112,113,114,115,116,117,118,119,120,121,122]).bind fun r8=>if r8 then ((xj s1 [97,98,99,100,101,102,103,104,105,106,107,108,109,110,111,112,113,114,115,116,117,118,119,120,121,122,48,49,50,51,52,53,54,55,56,57,45,95]).bind fun r12=>y4k r12) else (y4k false)) else (y4k false)
noncomputable def y0k (k11:Nat) (x14:Bs) (l10:(List Bs)):Option ((List Bs) ⊕ ((List Bs)×Int)):=
 (y3f x14).bind fun r22=>if !r22 then (some (.inr ([],5))) else (if l10.length+1≤1000000000 then (some (.inl (l10++[x14]))) else none)
noncomputable def y0l (l10:(List Bs)):Option ((List Bs)×Int):=
 (Zt l10).bind fun r15=>(z0i r15).bind fun r17=>if decide (20 < (r17.length:Int)) then (some ([],2)) else (some (r17,0))
noncomputable def x5e (a1:yb):Option ((List Bs)×Int):=
 (Ze a1.Headers [99,97,99,104,101,45,116,97,103]).bind fun r2=>(ji r2 [32]).bind fun r4=>(y20 r4 [44] [32]).bind fun r6=>(x44 r6).bind fun r8=>if r8.length≤1000000000 then forL (fun (k:Nat) (x:Bs) (s:(List Bs))=>y0k k x s) (fun (s:(List Bs))=>y0l s) 0 r8 [] else none
noncomputable def y8f  : Option (Bool):=
 (z9n (yb.mk 200 ([(zg.mk [99,97,99,104,101,45,99,111,110,116,114,111,108] [109,97,120,45,97,103,101,61,50])]) [])).bind fun r1=>some ((decide (r1.2=0)) && (decide (r1.1=2000)))
noncomputable def y78  : Option ((List Int)):=
 some ([6,7,8,9,10,11]:List Int)
noncomputable def x5a  : Option ((List Bs)):=
 some ([[110,111,45,115,116,111,114,101],[110,111,45,99,97,99,104,101],[112,114,105,118,97,116,101],[112,117,98,108,105,99],[109,117,115,116,45,114,101,118,97,108,105,100,97,116,101],[111,110,108,121,45,105,102,45,99,97,99,104,101,100]])
noncomputable def x49  : Option ((List Int)):=
 some ([0,1,2,3,4,5]:List Int)
noncomputable def x5c  : Option ((List Bs)):=
 some ([[109,97,120,45,97,103,101],[115,45,109,97,120,97,103,101],[115,116,97,108,101,45,119,104,105,108,101,45,114,101,118,97,108,105,100,97,116,101],[115,116,97,108,101,45,105,102,45,101,114,114,111,114],[109,97,120,45,115,116,97,108,101],[109,105,110,45,102,114,101,115,104]])
noncomputable def y0q (c102:Bool) (c103:Bool) (c104:Bool) (c105:Bool) (c106:Bool) (c107:Bool) (c108:Int) (c109:Int) (c110:Int) (c111:Int) (c112:Int) (c113:Int):Option ((Bool×Bool×Int×Int×Bool×Bool×Bool×Bool×Int×Int×Int×Int) ⊕ (yh×Int)):=
 some (.inl (c102,c103,c112,c113,c104,c105,c106,c107,c108,c109,c110,c111))
noncomputable def y0p (r42:(Bs×Bs×Bool)) (r44:(Int×Bool)) (r61:(Bs)) (c76:Bool) (c77:Bool) (c78:Bool) (c79:Bool) (c80:Bool) (c81:Bool) (c82:Int) (c83:Int) (c84:Int) (c85:Int) (c86:Int) (c87:Int):Option ((Bool×Bool×Int×Int×Bool×Bool×Bool×Bool×Int×Int×Int×Int) ⊕ (yh×Int)):=
 (x5c ).bind fun r88=>(Qp r88 r61).bind fun r90=>if decide (0≤r90) then (if !r42.2.2 then (some (.inr ((yh.mk false false false false false false 0 0 0 0 0 0),9))) else ((y78).bind fun r94=>(at? r94 r90).bind fun (x96:Int)=>if xn x96=true then (if ((decide ((jz (yh.mk c76 c77 c78 c79 c80 c81 c82 c83 c84 c85 c86 c87) x96) < 0)) || (decide (r44.1 < (jz (yh.mk c76 c77 c78 c79 c80 c81 c82 c83 c84 c85 c86 c87) x96)))) then ((some (xw (yh.mk c76 c77 c78 c79 c80 c81 c82 c83 c84 c85 c86 c87) x96 r44.1)).bind fun (c100:yh)=>y0q c100.NoStore c100.NoCache c100.Private c100.Public c100.Must c100.Only c100.MaxAge c100.Shared c100.Stale c100.OnError c100.MaxStale c100.MinFresh) else (y0q c76 c77 c78 c79 c80 c81 c82 c83 c84 c85 c86 c87)) else none)) else (y0q c76 c77 c78 c79 c80 c81 c82 c83 c84 c85 c86 c87)
noncomputable def z3c (c24:Bool) (c25:Bool) (c26:Int) (c27:Int) (c28:Bool) (c29:Bool) (c30:Bool) (c31:Bool) (c32:Int) (c33:Int) (c34:Int) (c35:Int) (r42:(Bs×Bs×Bool)) (r44:(Int×Bool)) (v59:Bool):Option ((Bool×Bool×Int×Int×Bool×Bool×Bool×Bool×Int×Int×Int×Int) ⊕ (yh×Int)):=
 if v59 then (some (.inr ((yh.mk false false false false false false 0 0 0 0 0 0),9))) else ((jv r42.1).bind fun r61=>(x5a ).bind fun r63=>(Qp r63 r61).bind fun r65=>if decide (0≤r65) then ((x49).bind fun r68=>(at? r68 r65).bind fun (x70:Int)=>if y0v x70=true then ((some (um (yh.mk c24 c25 c28 c29 c30 c31 c32 c33 c34 c35 c26 c27) x70 true)).bind fun (c73:yh)=>if r42.2.2 then (some (.inr ((yh.mk false false false false false false 0 0 0 0 0 0),9))) else (y0p r42 r44 r61 c73.NoStore c73.NoCache c73.Private c73.Public c73.Must c73.Only c73.MaxAge c73.Shared c73.Stale c73.OnError c73.MaxStale c73.MinFresh)) else none) else (y0p r42 r44 r61 c24 c25 c28 c29 c30 c31 c32 c33 c34 c35 c26 c27))
noncomputable def y4n (k36:Nat) (x39:Bs) (c24:Bool) (c25:Bool) (c26:Int) (c27:Int) (c28:Bool) (c29:Bool) (c30:Bool) (c31:Bool) (c32:Int) (c33:Int) (c34:Int) (c35:Int):Option ((Bool×Bool×Int×Int×Bool×Bool×Bool×Bool×Int×Int×Int×Int) ⊕ (yh×Int)):=
 (vq x39 [61]).bind fun r42=>(z0s r42.2.1 9).bind fun r44=>(z2q r42.1).bind fun r46=>if !r46 then (z3c c24 c25 c26 c27 c28 c29 c30 c31 c32 c33 c34 c35 r42 r44 true) else (if r42.2.2 then (if !r44.2 then (z3c c24 c25 c26 c27 c28 c29 c30 c31 c32 c33 c34 c35 r42 r44 true) else ((xc r44.1 0 100000000).bind fun r54=>z3c c24 c25 c26 c27 c28 c29 c30 c31 c32 c33 c34 c35 r42 r44 (!r54))) else (z3c c24 c25 c26 c27 c28 c29 c30 c31 c32 c33 c34 c35 r42 r44 false))
noncomputable def x7k (c24:Bool) (c25:Bool) (c26:Int) (c27:Int) (c28:Bool) (c29:Bool) (c30:Bool) (c31:Bool) (c32:Int) (c33:Int) (c34:Int) (c35:Int):Option (yh×Int):=
 some ((yh.mk c24 c25 c28 c29 c30 c31 c32 c33 c34 c35 c26 c27),0)
noncomputable def w9h (k16:Nat) (x19:Int) (c4:Bool) (c5:Bool) (c6:Int) (c7:Int) (c8:Bool) (c9:Bool) (c10:Bool) (c11:Bool) (c12:Int) (c13:Int) (c14:Int) (c15:Int):Option ((Bool×Bool×Int×Int×Bool×Bool×Bool×Bool×Int×Int×Int×Int) ⊕ (yh×Int)):=
 if xn x19=true then ((some (xw (yh.mk c4 c5 c8 c9 c10 c11 c12 c13 c14 c15 c6 c7) x19 (-1))).bind fun (c117:yh)=>some (.inl (c117.NoStore,c117.NoCache,c117.MaxStale,c117.MinFresh,c117.Private,c117.Public,c117.Must,c117.Only,c117.MaxAge,c117.Shared,c117.Stale,c117.OnError))) else none
noncomputable def y9u (v1:(List zg)) (c4:Bool) (c5:Bool) (c6:Int) (c7:Int) (c8:Bool) (c9:Bool) (c10:Bool) (c11:Bool) (c12:Int) (c13:Int) (c14:Int) (c15:Int):Option (yh×Int):=
 (Ze v1 [99,97,99,104,101,45,99,111,110,116,114,111,108]).bind fun r20=>(y29 r20).bind fun r22=>if r22.length≤1000000000 then forL (fun (k:Nat) (x:Bs) (s:Bool×Bool×Int×Int×Bool×Bool×Bool×Bool×Int×Int×Int×Int)=>y4n k x s.1 s.2.1 s.2.2.1 s.2.2.2.1 s.2.2.2.2.1 s.2.2.2.2.2.1 s.2.2.2.2.2.2.1 s.2.2.2.2.2.2.2.1 s.2.2.2.2.2.2.2.2.1 s.2.2.2.2.2.2.2.2.2.1 s.2.2.2.2.2.2.2.2.2.2.1 s.2.2.2.2.2.2.2.2.2.2.2) (fun (s:Bool×Bool×Int×Int×Bool×Bool×Bool×Bool×Int×Int×Int×Int)=>x7k s.1 s.2.1 s.2.2.1 s.2.2.2.1 s.2.2.2.2.1 s.2.2.2.2.2.1 s.2.2.2.2.2.2.1 s.2.2.2.2.2.2.2.1 s.2.2.2.2.2.2.2.2.1 s.2.2.2.2.2.2.2.2.2.1 s.2.2.2.2.2.2.2.2.2.2.1 s.2.2.2.2.2.2.2.2.2.2.2) 0 r22 (c4,c5,c6,c7,c8,c9,c10,c11,c12,c13,c14,c15) else none
noncomputable def y8d (v1:(List zg)):Option (yh×Int):=
 (y78).bind fun r2=>if r2.length≤1000000000 then forL (fun (k:Nat) (x:Int) (s:Bool×Bool×Int×Int×Bool×Bool×Bool×Bool×Int×Int×Int×Int)=>w9h k x s.1 s.2.1 s.2.2.1 s.2.2.2.1 s.2.2.2.2.1 s.2.2.2.2.2.1 s.2.2.2.2.2.2.1 s.2.2.2.2.2.2.2.1 s.2.2.2.2.2.2.2.2.1 s.2.2.2.2.2.2.2.2.2.1 s.2.2.2.2.2.2.2.2.2.2.1 s.2.2.2.2.2.2.2.2.2.2.2) (fun (s:Bool×Bool×Int×Int×Bool×Bool×Bool×Bool×Int×Int×Int×Int)=>y9u v1 s.1 s.2.1 s.2.2.1 s.2.2.2.1 s.2.2.2.2.1 s.2.2.2.2.2.1 s.2.2.2.2.2.2.1 s.2.2.2.2.2.2.2.1 s.2.2.2.2.2.2.2.2.1 s.2.2.2.2.2.2.2.2.2.1 s.2.2.2.2.2.2.2.2.2.2.1 s.2.2.2.2.2.2.2.2.2.2.2) 0 r2 (false,false,0,0,false,false,false,false,0,0,0,0) else none
noncomputable def x47 (c1:yh):Option (Int):=
 if c1.NoCache then some 0 else (if decide (0≤c1.Shared) then (some (wr (1000 * c1.Shared))) else (some (max 0 (wr (1000 * c1.MaxAge)))))
/- models of functions that this seat does not reach: for the plain texts alone -/
structure vo where
 c_:Int
 plain_:Bool
noncomputable def y0r (e1:uj) (v2:Int) (n17:Int):Option (Int):=
 some (wr ((wr (v2 - e1.At))+(wr (1000 * n17))))
noncomputable def y9v (e1:uj) (v2:Int) (r8:(Int×Bool)) (v15:Bool):Option (Int):=
 if v15 then (y0r e1 v2 r8.1) else (y0r e1 v2 0)
noncomputable def x5h (e1:uj) (v2:Int):Option (Int):=
 (Ze e1.Response.Headers [97,103,101]).bind fun r3=>if decide (0 < (r3.length:Int)) then ((r3[0]?).bind fun (x6:Bs)=>(z0s x6 9).bind fun r8=>if r8.2 then ((xc r8.1 0 100000000).bind fun r12=>y9v e1 v2 r8 r12) else (y9v e1 v2 r8 false)) else (y0r e1 v2 0)
noncomputable def w9d (out21:(List vo)):Option ((List vo)×Bool):=
 some (out21,true)
noncomputable def xm (s2:Bs) (l3:(List vo)):Option ((Bs×(List vo)) ⊕ ((List vo)×Bool)):=
 if decide (s2≠[]) then ((s2[0]?).bind fun (x6:UInt8)=>if decide ((x6.toNat:Int)≠37) then (if l3.length+1≤1000000000 then ((sub? s2 1 (s2.length:Int)).bind fun (l10:Bs)=>some (.inl (l10,(l3++[(vo.mk (x6.toNat:Int) true)])))) else none) else (if decide ((s2.length:Int) < 3) then (some (.inr ([],false))) else ((sub? s2 1 3).bind fun (l13:Bs)=>(z5f l13 16 8).bind fun r15=>if decide (r15.2≠0) then (some (.inr ([],false))) else (if l3.length+1≤1000000000 then ((sub? s2 3 (s2.length:Int)).bind fun (l19:Bs)=>some (.inl (l19,(l3++[(vo.mk (IntKind.wrap .u8 r15.1) false)])))) else none)))) else (Option.map .inr (w9d l3))
noncomputable def z5u (s1:Bs):Option ((List vo)×Bool):=
 iter (fun (s:Bs×(List vo))=>xm s.1 s.2) (s1,[])
noncomputable def x5b (n1:Int):Option (Bs):=
 (sub? [48,49,50,51,52,53,54,55,56,57,65,66,67,68,69,70] n1 (IntKind.wrap .u8 (n1+1))).bind fun (l2:Bs)=>some l2
noncomputable def z5v (c1:Int):Option (Bs):=
 (x5b (shr_ .u8 c1 4)).bind fun r2=>if [37].length+r2.length≤1000000000 then ((x5b (and_ .u8 c1 15)).bind fun r5=>if ([37]++r2).length+r5.length≤1000000000 then (some (([37]++r2)++r5)) else none) else none
noncomputable def y4i (c17:Int) (x22:Bs) (l28:(List Bs)):Option ((Int×(List Bs)) ⊕ (Bs×Int)):=
 if decide (x22=[46,46]) then (some (.inl (wr (c17+1),l28))) else (some (.inl (c17,l28)))
noncomputable def z6r (r15:((List Bs))) (k21:Nat) (x22:Bs) (c17:Int) (l18:(List Bs)):Option ((Int×(List Bs)) ⊕ (Bs×Int)):=
 if ((decide (x22=[46])) || (decide (x22=[46,46]))) then (if decide ((k21:Int)=(wr ((r15.length:Int) - 1))) then (if l18.length+1≤1000000000 then (y4i c17 x22 (l18++([[]]))) else none) else (y4i c17 x22 l18)) else (if decide (0 < c17) then (some (.inl (wr (c17 - 1),l18))) else (if l18.length+1≤1000000000 then (some (.inl (c17,(l18++[x22])))) else none))
noncomputable def y4j (c17:Int) (l18:(List Bs)):Option (Bs×Int):=
 (x46 l18).bind fun r32=>(ji r32 [47]).bind fun r34=>if [47].length+r34.length≤1000000000 then (some (([47]++r34),0)) else none
noncomputable def y4h (v53:Bs):Option (Bs ⊕ (Bs×Int)):=
 some (.inl v53)
noncomputable def z6s (v8:Bs) (x12:vo) (v47:Bool):Option (Bs ⊕ (Bs×Int)):=
 if v47 then (if v8.length+(strN [x12.c_]).length≤1000000000 then (y4h (v8++(strN [x12.c_]))) else none) else ((z5v x12.c_).bind fun r50=>if v8.length+r50.length≤1000000000 then (y4h (v8++r50)) else none)
noncomputable def y0n (k9:Nat) (x12:vo) (v8:Bs):Option (Bs ⊕ (Bs×Int)):=
 if x12.plain_ then (z6s v8 x12 true) else ((xj (encL (IntKind.wrap .i32 x12.c_)) [97,98,99,100,101,102,103,104,105,106,107,108,109,110,111,112,113,114,115,116,117,118,119,120,121,122,65,66,67,68,69,70,71,72,73,74,75,76,77,78,79,80,81,82,83,84,85,86,87,88,89,90,48,49,50,51,52,53,54,55,56,57,45,46,95,126]).bind fun r41=>if r41 then (z6s v8 x12 (decide (x12.c_ < 128))) else (z6s v8 x12 false))
noncomputable def y9r (v8:Bs):Option (Bs×Int):=
 (sub? v8 1 (v8.length:Int)).bind fun (l13:Bs)=>(vz l13 [47]).bind fun r15=>if r15.length≤1000000000 then back (fun (k:Nat) (x:Bs) (s:Int×(List Bs))=>z6r r15 k x s.1 s.2) (fun (s:Int×(List Bs))=>y4j s.1 s.2) r15 r15.length (0,([]:List Bs)) else none
noncomputable def y8b (v1:Bs):Option (Bs×Int):=
 (y28 v1).bind fun r2=>if !r2 then (some ([],3)) else ((z5u v1).bind fun r5=>if !r5.2 then (some ([],9)) else (if r5.1.length≤1000000000 then forL (fun (k:Nat) (x:vo) (s:Bs)=>y0n k x s) (fun (s:Bs)=>y9r s) 0 r5.1 [] else none))
noncomputable def y0h (k5:Nat) (x8:vo) (l4:(List Int)):Option ((List Int) ⊕ (Bs)):=
 if l4.length+1≤1000000000 then (some (.inl (l4++[x8.c_]))) else none
noncomputable def y4d (l4:(List Int)):Option (Bs):=
 some (strN l4)
noncomputable def z9b (s1:Bs):Option (Bs):=
 (z5u s1).bind fun r2=>if r2.1.length≤1000000000 then forL (fun (k:Nat) (x:vo) (s:(List Int))=>y0h k x s) (fun (s:(List Int))=>y4d s) 0 r2.1 [] else none
noncomputable def y9q (out28:(List zp)):Option ((List zp) ⊕ ((List zp)×Int)):=
 some (.inl out28)
noncomputable def y0m (k11:Nat) (x14:Bs) (l10:(List zp)):Option ((List zp) ⊕ ((List zp)×Int)):=
 if decide (x14=[]) then (y9q l10) else ((y20 x14 [43] [37,50,48]).bind fun r19=>(vq r19 [61]).bind fun r21=>(z9b r21.1).bind fun r23=>(z9b r21.2.1).bind fun r25=>if l10.length+1≤1000000000 then (y9q (l10++[(zp.mk r23 r25)])) else none)
noncomputable def y4g (l10:(List zp)):Option ((List zp)×Int):=
 if decide (100 < (l10.length:Int)) then (some ([],2)) else (some (l10,0))
noncomputable def z9c (s1:Bs):Option ((List zp)×Int):=
 (Yn s1).bind fun r2=>if !r2 then (some ([],3)) else ((z5u s1).bind fun r5=>if !r5.2 then (some ([],9)) else ((vz s1 [38]).bind fun r8=>if r8.length≤1000000000 then forL (fun (k:Nat) (x:Bs) (s:(List zp))=>y0m k x s) (fun (s:(List zp))=>y4g s) 0 r8 [] else none))
noncomputable def y3e (p1:zp):Option (Bool):=
 if p1.Name.length+p1.Value.length≤1000000000 then (some (decide ((p1.Name++p1.Value)=[]))) else none
noncomputable def w25 (blockSize16:Int):Option (Int ⊕ ((List zp))):=
 some (.inl (wr (blockSize16 * 2)))
noncomputable def w26 (n2:Int) (blockSize16:Int) (a23:Int):Option (Int ⊕ ((List zp))):=
 if decide ((wr (a23+blockSize16)) < n2) then none else (w25 blockSize16)
noncomputable def w22 (n2:Int) (blockSize16:Int) (a19:Int) (b20:Int):Option ((Int×Int) ⊕ (Int ⊕ ((List zp)))):=
 if decide (b20≤n2) then none else (Option.map .inr (w26 n2 blockSize16 a19))
noncomputable def w23 (n2:Int) (r13:((List zp))) (blockSize16:Int):Option (Int ⊕ ((List zp))):=
 if decide (blockSize16 < n2) then (iter (fun (s:Int×Int)=>w22 n2 blockSize16 s.1 s.2) (0,wr (2 * blockSize16))) else (some (.inr r13))
noncomputable def w27 (n2:Int) (p2:zp→zp→Option (Int)) (a11:Int) (data12:(List zp)):Option ((List zp)):=
 (z8z data12 a11 n2 p2).bind fun r13=>if r13.length=data12.length then (iter (fun (s:Int)=>w23 n2 r13 s) 20) else none
noncomputable def w24 (n2:Int) (p2:zp→zp→Option (Int)) (a3:Int) (b4:Int) (l5:(List zp)):Option ((Int×Int×(List zp)) ⊕ ((List zp))):=
 if decide (b4≤n2) then ((z8z l5 a3 b4 p2).bind fun r8=>if r8.length=l5.length then (some (.inl (b4,wr (b4+20),r8))) else none) else (Option.map .inr (w27 n2 p2 a3 l5))
noncomputable def x45 (data1:(List zp)) (n2:Int) (p2:zp→zp→Option (Int)):Option ((List zp)):=
 iter (fun (s:Int×Int×(List zp))=>w24 n2 p2 s.1 s.2.1 s.2.2) (0,20,data1)
noncomputable def y7x (x1:(List zp)) (p1:zp→zp→Option (Int)):Option ((List zp)):=
 (x45 x1 (x1.length:Int) p1).bind fun r2=>if r2.length=x1.length then some r2 else none
noncomputable def y8c (a1:zp) (b2:zp):Option (Int):=
 if decide (a1.Name≠b2.Name) then ((z2f a1.Name b2.Name).bind fun r4=>some r4) else ((z2f a1.Value b2.Value).bind fun r6=>some r6)
noncomputable def y4a (out18:(List Int)):Option ((List Int) ⊕ (Bs)):=
 some (.inl out18)
noncomputable def y0d (k3:Nat) (x6:UInt8) (l2:(List Int)):Option ((List Int) ⊕ (Bs)):=
 if decide ((x6.toNat:Int)=32) then (if l2.length+1≤1000000000 then (y4a (l2++[43])) else none) else ((z2d [97,98,99,100,101,102,103,104,105,106,107,108,109,110,111,112,113,114,115,116,117,118,119,120,121,122,65,66,67,68,69,70,71,72,73,74,75,76,77,78,79,80,81,82,83,84,85,86,87,88,89,90,48,49,50,51,52,53,54,55,56,57,45,46,95,126] (x6.toNat:Int)).bind fun r11=>if decide (0≤r11) then (if l2.length+1≤1000000000 then (y4a (l2++[(x6.toNat:Int)])) else none) else ((z5v (x6.toNat:Int)).bind fun r15=>if l2.length+r15.length≤1000000000 then (y4a (l2++yk r15)) else none))
noncomputable def y4b (l2:(List Int)):Option (Bs):=
 some (strN l2)
noncomputable def y27 (s1:Bs):Option (Bs):=
 if s1.length≤1000000000 then forL (fun (k:Nat) (x:UInt8) (s:(List Int))=>y0d k x s) (fun (s:(List Int))=>y4b s) 0 s1 [] else none
noncomputable def x7f (k4:Nat) (x7:zp) (l3:(List Bs)):Option ((List Bs) ⊕ (Bs×Int)):=
 if ((decide (x7.Name=[])) && (decide (x7.Value=[]))) then (some (.inr ([],3))) else ((y27 x7.Name).bind fun r14=>if r14.length+[61].length≤1000000000 then ((y27 x7.Value).bind fun r17=>if (r14++[61]).length+r17.length≤1000000000 then (if l3.length+1≤1000000000 then (some (.inl (l3++([((r14++[61])++r17)])))) else none) else none) else none)
noncomputable def w9g (l3:(List Bs)):Option (Bs×Int):=
 (ji l3 [38]).bind fun r8=>if decide (1000 < (r8.length:Int)) then (some ([],2)) else (some (r8,0))
noncomputable def y3d (l1:(List zp)):Option (Bs×Int):=
 if decide (100 < (l1.length:Int)) then (some ([],2)) else (if l1.length≤1000000000 then forL (fun (k:Nat) (x:zp) (s:(List Bs))=>x7f k x s) (fun (s:(List Bs))=>w9g s) 0 l1 [] else none)
noncomputable def y0o (k24:Nat) (x27:zg) (l23:(List zg)):Option ((List zg) ⊕ (zw×Int)):=
 (jv x27.Name).bind fun r30=>if l23.length+1≤1000000000 then (some (.inl (l23++[(zg.mk r30 x27.Value)]))) else none
noncomputable def x7g (v1:zw) (r5:(Bs×Int)) (r7:(Bs×Int)) (r18:(Bs×Int)) (r21:(Bs)) (l23:(List zg)):Option (zw×Int):=
 some ((zw.mk v1.At r21 r5.1 r7.1 r18.1 v1.From l23 v1.Body),0)
noncomputable def x5f (v1:zw):Option (zw×Int):=
 (y3c v1).bind fun r2=>if decide (r2≠0) then (some ((zw.mk 0 [] [] [] [] [] [] []),r2)) else ((z5w v1.Host).bind fun r5=>(y8b v1.Path).bind fun r7=>if decide (r7.2≠0) then (some ((zw.mk 0 [] [] [] [] [] [] []),r7.2)) else ((z9c v1.Query).bind fun r10=>if decide (r10.2≠0) then (some ((zw.mk 0 [] [] [] [] [] [] []),r10.2)) else ((z5h r10.1 (fun (a0:zp)=>y3e a0)).bind fun r13=>(y7x r13 (fun (a0:zp) (a1:zp)=>y8c a0 a1)).bind fun r15=>if r15.length=r13.length then ((y3d r15).bind fun r18=>if decide (r18.2≠0) then (some ((zw.mk 0 [] [] [] [] [] [] []),r18.2)) else ((z0g v1.Method).bind fun r21=>if v1.Headers.length≤1000000000 then forL (fun (k:Nat) (x:zg) (s:(List zg))=>y0o k x s) (fun (s:(List zg))=>x7g v1 r5 r7 r18 r21 s) 0 v1.Headers ([]:List zg) else none)) else none)))
noncomputable def y3b (n1:Bs) (c2:zw) (c3:zw):Option (Bool):=
 (Ze c2.Headers n1).bind fun r4=>(Ze c3.Headers n1).bind fun r6=>(z5g r4 r6).bind fun r8=>some (!r8)
structure v2h where
 Words:Bs
 Params:(List zp)
 Quality:Int
structure v2e where
 s_:Bs
 i_:Int
 bad_:Bool
structure v2f where
 s_:Bs
end Go.Proofs.YtahcnngcpjkpgabGreatDoor
