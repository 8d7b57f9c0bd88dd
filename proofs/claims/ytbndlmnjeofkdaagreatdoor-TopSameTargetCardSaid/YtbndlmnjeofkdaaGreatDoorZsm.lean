/- Plain models of functions. Printed by a program. -/
import Derived.Test.YtbndlmnjeofkdaaGreatDoorMc
import Derived.Test.YtbndlmnjeofkdaaGreatDoorRng
import Derived.Test.YtbndlmnjeofkdaaGreatDoorMk
namespace Go.Proofs.YtbndlmnjeofkdaaGreatDoor
set_option linter.unusedVariables false
set_option maxRecDepth 20000
structure zn where
 L:(List Int)
 at_:Int
structure zo where
 Name:Bs
 Value:Bs
structure zu where
 At:Int
 Method:Bs
 Host:Bs
 Path:Bs
 Query:Bs
 From:Bs
 Headers:(List zo)
 Body:Bs
structure zj where
 Name:Bs
 Value:Bs
structure vj where
 Key:Bs
 Weight:Int
structure ym where
 Status:Int
 Headers:(List zo)
 Body:Bs
structure yp where
 NoStore:Bool
 NoCache:Bool
 Private:Bool
 Public:Bool
 Must:Bool
 Only:Bool
 MaxAge:Int
 Shared:Int
 Stale:Int
 OnError:Int
 MaxStale:Int
 MinFresh:Int
structure qo where
 Request:zu
 Response:ym
 At:Int
 Tags:(List Bs)
 Used:Int
def y1l (x:Int):Bool:=decide (x=0) || decide (x=1) || decide (x=2) || decide (x=3) || decide (x=4) || decide (x=5)
def y2p (c:yp) (x:Int) (y:Bool):yp:=if x=0 then yp.mk y c.NoCache c.Private c.Public c.Must c.Only c.MaxAge c.Shared c.Stale c.OnError c.MaxStale c.MinFresh else if x=1 then yp.mk c.NoStore y c.Private c.Public c.Must c.Only c.MaxAge c.Shared c.Stale c.OnError c.MaxStale c.MinFresh else if x=2 then yp.mk c.NoStore c.NoCache y c.Public c.Must c.Only c.MaxAge c.Shared c.Stale c.OnError c.MaxStale c.MinFresh else if x=3 then yp.mk c.NoStore c.NoCache c.Private y c.Must c.Only c.MaxAge c.Shared c.Stale c.OnError c.MaxStale c.MinFresh else if x=4 then yp.mk c.NoStore c.NoCache c.Private c.Public y c.Only c.MaxAge c.Shared c.Stale c.OnError c.MaxStale c.MinFresh else if x=5 then yp.mk c.NoStore c.NoCache c.Private c.Public c.Must y c.MaxAge c.Shared c.Stale c.OnError c.MaxStale c.MinFresh else c
def Yd (x:Int):Bool:=decide (x=6) || decide (x=7) || decide (x=8) || decide (x=9) || decide (x=10) || decide (x=11)
def Qg (c:yp) (x:Int):Int:=if x=6 then c.MaxAge else if x=7 then c.Shared else if x=8 then c.Stale else if x=9 then c.OnError else if x=10 then c.MaxStale else if x=11 then c.MinFresh else 0
def z88 (c:yp) (x:Int) (y:Int):yp:=if x=6 then yp.mk c.NoStore c.NoCache c.Private c.Public c.Must c.Only y c.Shared c.Stale c.OnError c.MaxStale c.MinFresh else if x=7 then yp.mk c.NoStore c.NoCache c.Private c.Public c.Must c.Only c.MaxAge y c.Stale c.OnError c.MaxStale c.MinFresh else if x=8 then yp.mk c.NoStore c.NoCache c.Private c.Public c.Must c.Only c.MaxAge c.Shared y c.OnError c.MaxStale c.MinFresh else if x=9 then yp.mk c.NoStore c.NoCache c.Private c.Public c.Must c.Only c.MaxAge c.Shared c.Stale y c.MaxStale c.MinFresh else if x=10 then yp.mk c.NoStore c.NoCache c.Private c.Public c.Must c.Only c.MaxAge c.Shared c.Stale c.OnError y c.MinFresh else if x=11 then yp.mk c.NoStore c.NoCache c.Private c.Public c.Must c.Only c.MaxAge c.Shared c.Stale c.OnError c.MaxStale y else c
noncomputable def z4p (x6:Int):Option (Int):=
 some x6
noncomputable def z0k (x1:Int) (n2:Int):Option (Int):=
 if decide (n2 < 1) then some 0 else (if n2≠0 then (if decide ((Int.tmod x1 n2) < 0) then (z4p (wr ((Int.tmod x1 n2)+n2))) else (z4p (Int.tmod x1 n2))) else none)
noncomputable def ko (s1:zn) (n2:Int):Option (Int×zn):=
 if decide ((s1.L.length:Int)=0) then ((z0k (wr ((wr (s1.at_+1)) * 7919)) n2).bind fun r4=>some (r4,(zn.mk s1.L (wr (s1.at_+1))))) else (if (s1.L.length:Int)≠0 then (if ((0:Int)≤(wr ((wr (s1.at_+1)) - 1))∧(wr ((wr (s1.at_+1)) - 1))≤9223372036854775807)∧(0:Int) < (s1.L.length:Int) then ((at? s1.L (Int.tmod (wr ((wr (s1.at_+1)) - 1)) (s1.L.length:Int))).bind fun (x8:Int)=>(z0k x8 1073741824).bind fun r10=>(z0k (wr (r10+(wr (((wr ((wr (s1.at_+1)) - 1)) / (s1.L.length:Int)) * (wr (7919+(Int.tmod (wr ((wr (s1.at_+1)) - 1)) (s1.L.length:Int)))))))) n2).bind fun r12=>some (r12,(zn.mk s1.L (wr (s1.at_+1))))) else none) else none)
noncomputable def wt (s1:zn) (l2:(List Bs)):Option (Bs×zn):=
 (ko s1 (l2.length:Int)).bind fun r3=>(at? l2 r3.1).bind fun (x5:Bs)=>some (x5,r3.2)
noncomputable def vg (s1:zn) (n2:Int):Option (Bool×zn):=
 (ko s1 n2).bind fun r3=>some (decide (r3.1=0),r3.2)
noncomputable def Zv (s1:zn) (low2:Int) (high3:Int):Option (Int×zn):=
 if decide (high3 < low2) then (some (low2,s1)) else ((ko s1 (wr ((wr (high3 - low2))+1))).bind fun r5=>some (wr (low2+r5.1),r5.2))
noncomputable def z4k (l4:(List Bs)) (k8:Nat) (c5:(List Int)) (c6:Int) (l7:(List Bs)):Option (((List Int)×Int×(List Bs)) ⊕ (Bs×zn)):=
 (wt (zn.mk c5 c6) l4).bind fun r14=>if l7.length+1≤1000000000 then (some (.inl (r14.2.L,r14.2.at_,(l7++[r14.1])))) else none
noncomputable def z4l (between3:Bs) (c5:(List Int)) (c6:Int) (l7:(List Bs)):Option (Bs×zn):=
 (vu l7 between3).bind fun r11=>some (r11,(zn.mk c5 c6))
noncomputable def ke (s1:zn) (many2:Int) (between3:Bs) (l4:(List Bs)):Option (Bs×zn):=
 if many2≤1000000000 then rng (fun (k:Nat) (s:(List Int)×Int×(List Bs))=>z4k l4 k s.1 s.2.1 s.2.2) (fun (s:(List Int)×Int×(List Bs))=>z4l between3 s.1 s.2.1 s.2.2) many2.toNat 0 (s1.L,s1.at_,[]) else none
noncomputable def z4o (t11:Bs) (c12:(List Int)) (c13:Int):Option (Bs×zn):=
 some (t11,(zn.mk c12 c13))
noncomputable def z61 (s1:zn):Option (Bs×zn):=
 (Zv s1 1 2).bind fun r2=>(ke r2.2 r2.1 [44,32] ([[109,97,120,45,97,103,101,61,51,48],[109,97,120,45,97,103,101,61,48],[109,105,110,45,102,114,101,115,104,61,50,48],[109,97,120,45,115,116,97,108,101,61,49,53],[110,111,45,99,97,99,104,101],[111,110,108,121,45,105,102,45,99,97,99,104,101,100],[109,97,120,45,115,116,97,108,101,61,49,48,48,48],[110,111,45,115,116,111,114,101]])).bind fun r4=>(vg r4.2 20).bind fun r6=>if r6.1 then ((wt r6.2 ([[109,97,120,45,115,116,97,108,101],[109,105,110,45,102,114,101,115,104,61,120]])).bind fun r9=>z4o r9.1 r9.2.L r9.2.at_) else (z4o r4.1 r6.2.L r6.2.at_)
noncomputable def z6z (s1:zn) (t2:Bs) (v3:Bs):Option (Bs×zn):=
 if ((decide (t2=[])) || (decide (v3=[]))) then (some (v3,s1)) else ((ko s1 (t2.length:Int)).bind fun r5=>(ko r5.2 (v3.length:Int)).bind fun r7=>(at? v3 r7.1).bind fun (x9:UInt8)=>(ko r7.2 3).bind fun r11=>if decide (r11.1=0) then ((sub? t2 0 r5.1).bind fun (l14:Bs)=>if l14.length+(encL (IntKind.wrap .i32 (x9.toNat:Int))).length≤1000000000 then ((sub? t2 (wr (r5.1+1)) (t2.length:Int)).bind fun (l17:Bs)=>if (l14++(encL (IntKind.wrap .i32 (x9.toNat:Int)))).length+l17.length≤1000000000 then (some (((l14++(encL (IntKind.wrap .i32 (x9.toNat:Int))))++l17),r11.2)) else none) else none) else (if decide (r11.1=1) then ((sub? t2 0 r5.1).bind fun (l21:Bs)=>if l21.length+(encL (IntKind.wrap .i32 (x9.toNat:Int))).length≤1000000000 then ((sub? t2 r5.1 (t2.length:Int)).bind fun (l24:Bs)=>if (l21++(encL (IntKind.wrap .i32 (x9.toNat:Int)))).length+l24.length≤1000000000 then (some (((l21++(encL (IntKind.wrap .i32 (x9.toNat:Int))))++l24),r11.2)) else none) else none) else ((sub? t2 0 r5.1).bind fun (l27:Bs)=>(sub? t2 (wr (r5.1+1)) (t2.length:Int)).bind fun (l29:Bs)=>if l27.length+l29.length≤1000000000 then (some ((l27++l29),r11.2)) else none)))
noncomputable def z4m (p23:Bs) (c24:(List Int)) (c25:Int):Option (Bs×zn):=
 some (p23,(zn.mk c24 c25))
noncomputable def z07 (p15:Bs) (c16:(List Int)) (c17:Int):Option (Bs×zn):=
 (vg (zn.mk c16 c17) 12).bind fun r18=>if r18.1 then ((z6z r18.2 p15 [47,46,37,50,102,65]).bind fun r21=>z4m r21.1 r21.2.L r21.2.at_) else (z4m p15 r18.2.L r18.2.at_)
noncomputable def z6v (s1:zn):Option (Bs×zn):=
 (Zv s1 0 4).bind fun r2=>(ke r2.2 r2.1 [47] ([[97],[98],[37,52,49],[37,50,102],[37,55,101],[46],[46,46],[],[120,59,121],[99,37,50,48,100],[37,99,51,37,97,52],[65],[97,46,98],[126]])).bind fun r4=>if [47].length+r4.1.length≤1000000000 then ((vg r4.2 12).bind fun r7=>if r7.1 then ((Ys [37,50,48] 340).bind fun r10=>if [47].length+r10.length≤1000000000 then ((wt r7.2 ([[],[97],[47,97,63,98],[47,97,35],[47,37],[47,37,52],[47,37,122,122],[47,127],[47,97,32,98],([47]++r10)])).bind fun r13=>z07 r13.1 r13.2.L r13.2.at_) else none) else (z07 ([47]++r4.1) r7.2.L r7.2.at_)) else none
noncomputable def z06 (q13:Bs) (c14:(List Int)) (c15:Int):Option (Bs×zn):=
 some (q13,(zn.mk c14 c15))
noncomputable def z0h (s1:zn):Option (Bs×zn):=
 (Zv s1 0 4).bind fun r2=>(ke r2.2 r2.1 [38] ([[97,61,49],[98,61,50],[97,61],[61,120],[61],[99],[],[97,61,37,52,49,43,37,50,66],[100,61,120,37,50,54,121],[98,61,37,99,51],[97,61,49,61,50],[97,63,98,61,47]])).bind fun r4=>(vg r4.2 12).bind fun r6=>if r6.1 then ((ke r6.2 101 [38] ([[120]])).bind fun r9=>(wt r9.2 ([[35],[97,37],[37,103,49,61,50],[97,32,98],[128],r9.1])).bind fun r11=>z06 r11.1 r11.2.L r11.2.at_) else (z06 r4.1 r6.2.L r6.2.at_)
noncomputable def z1g (v2:Int) (r3:(Bs×zn)) (r5:(Bs×zn)) (l46:(List zo)) (c54:(List Int)) (c55:Int) (c56:Bs) (c57:Bs):Option (zu×zn):=
 some ((zu.mk v2 r3.1 r5.1 c56 c57 [] l46 []),(zn.mk c54 c55))
noncomputable def z1h (v2:Int) (r3:(Bs×zn)) (r5:(Bs×zn)) (r7:(Bs×zn)) (r9:(Bs×zn)) (c44:(List Int)) (c45:Int) (l46:(List zo)):Option (zu×zn):=
 (vg (zn.mk c44 c45) 40).bind fun r47=>if r47.1 then ((z6v r47.2).bind fun r50=>(z0h r50.2).bind fun r52=>z1g v2 r3 r5 l46 r52.2.L r52.2.at_ r50.1 r52.1) else (z1g v2 r3 r5 l46 r47.2.L r47.2.at_ r7.1 r9.1)
noncomputable def z1i (v2:Int) (r3:(Bs×zn)) (r5:(Bs×zn)) (r7:(Bs×zn)) (r9:(Bs×zn)) (c35:(List Int)) (c36:Int) (l37:(List zo)):Option (zu×zn):=
 (vg (zn.mk c35 c36) 8).bind fun r38=>if r38.1 then ((wt r38.2 ([[34,118,49,34],[87,47,34,118,50,34,44,32,34,118,49,34],[42],[118,49]])).bind fun r41=>if l37.length+1≤1000000000 then (z1h v2 r3 r5 r7 r9 r41.2.L r41.2.at_ (l37++([(zo.mk [105,102,45,110,111,110,101,45,109,97,116,99,104] r41.1)]))) else none) else (z1h v2 r3 r5 r7 r9 r38.2.L r38.2.at_ l37)
noncomputable def z1j (v2:Int) (r3:(Bs×zn)) (r5:(Bs×zn)) (r7:(Bs×zn)) (r9:(Bs×zn)) (c28:(List Int)) (c29:Int) (l30:(List zo)):Option (zu×zn):=
 (vg (zn.mk c28 c29) 12).bind fun r31=>if r31.1 then (if l30.length+1≤1000000000 then (z1i v2 r3 r5 r7 r9 r31.2.L r31.2.at_ (l30++([(zo.mk [97,117,116,104,111,114,105,122,97,116,105,111,110] [66,101,97,114,101,114,32,120])]))) else none) else (z1i v2 r3 r5 r7 r9 r31.2.L r31.2.at_ l30)
noncomputable def z1k (v2:Int) (r3:(Bs×zn)) (r5:(Bs×zn)) (r7:(Bs×zn)) (r9:(Bs×zn)) (c19:(List Int)) (c20:Int) (l21:(List zo)):Option (zu×zn):=
 (vg (zn.mk c19 c20) 4).bind fun r22=>if r22.1 then ((z61 r22.2).bind fun r25=>if l21.length+1≤1000000000 then (z1j v2 r3 r5 r7 r9 r25.2.L r25.2.at_ (l21++([(zo.mk [99,97,99,104,101,45,99,111,110,116,114,111,108] r25.1)]))) else none) else (z1j v2 r3 r5 r7 r9 r22.2.L r22.2.at_ l21)
noncomputable def z3h (s1:zn) (v2:Int):Option (zu×zn):=
 (wt s1 ([[71,69,84],[71,69,84],[71,69,84],[71,69,84],[72,69,65,68],[80,79,83,84]])).bind fun r3=>(wt r3.2 ([[97,46,98],[97,46,98],[65,46,66,58,56,48],[99,46,100]])).bind fun r5=>(wt r5.2 ([[47,120],[47,120],[47,120,47,46,47],[47,37,55,56],[47,121]])).bind fun r7=>(wt r7.2 ([[],[],[98,61,50,38,97,61,49],[97,61,49,38,98,61,50]])).bind fun r9=>(vg r9.2 3).bind fun r11=>if r11.1 then ((wt r11.2 ([[97,99,99,101,112,116,45,108,97,110,103,117,97,103,101],[65,99,99,101,112,116,45,76,97,110,103,117,97,103,101]])).bind fun r14=>(wt r14.2 ([[100,101],[101,110]])).bind fun r16=>if ([]:List zo).length+1≤1000000000 then (z1k v2 r3 r5 r7 r9 r16.2.L r16.2.at_ (([]:List zo)++[(zo.mk r14.1 r16.1)])) else none) else (z1k v2 r3 r5 r7 r9 r11.2.L r11.2.at_ ([]:List zo))
noncomputable def z0c (n1:Int):Option (Bool):=
 some ((decide (0≤n1)) && (decide (n1 < 345686400000)))
noncomputable def z6i (c1:Int):Option (Bool):=
 some (((decide (97≤c1)) && (decide (c1≤122))) || ((decide (65≤c1)) && (decide (c1≤90))))
noncomputable def z25 (c1:Int):Option (Bool):=
 some ((decide (48≤c1)) && (decide (c1≤57)))
noncomputable def z2j (v14:Bool):Option (Bool):=
 some v14
noncomputable def z6g (c1:Int):Option (Bool):=
 (z6i c1).bind fun r2=>if r2 then (z2j true) else ((z25 c1).bind fun r6=>if r6 then (z2j true) else ((Wv [33,35,36,37,38,39,42,43,45,46,94,95,96,124,126] c1).bind fun r10=>z2j (decide (0≤r10))))
noncomputable def z9y (k2:Nat) (x5:UInt8):Option (Unit ⊕ (Bool)):=
 (z6g (x5.toNat:Int)).bind fun r8=>if !r8 then (some (.inr false)) else (some (.inl ()))
noncomputable def y3q (s1:Bs):Option (Bool):=
 some ((decide (s1≠[])) && (decide ((s1.length:Int)≤100)))
noncomputable def Yx (s1:Bs):Option (Bool):=
 if s1.length≤1000000000 then forL (fun (k:Nat) (x:UInt8) (s:Unit)=>z9y k x) (fun (s:Unit)=>y3q s1) 0 s1 () else none
noncomputable def jv (c1:Int):Option (Int):=
 some (or_ .u8 c1 32)
noncomputable def z3t (v47:Int) (v85:Int):Option ((Int×Int) ⊕ (Bool)):=
 some (.inl (v85,wr (v47+1)))
noncomputable def xt (v14:Bs) (v46:Int) (v47:Int) (v78:Bool):Option ((Int×Int) ⊕ (Bool)):=
 if v78 then (z3t v47 48) else ((at? v14 v47).bind fun (x80:UInt8)=>if decide ((x80.toNat:Int)=95) then (if decide (v46≠48) then (some (.inr false)) else (z3t v47 95)) else (if decide (v46=95) then (some (.inr false)) else (z3t v47 33)))
noncomputable def y0m (v86:Int):Option (Bool):=
 some (decide (v86≠95))
noncomputable def y40 (v14:Bs) (v45:Bool) (v46:Int) (v47:Int):Option ((Int×Int) ⊕ (Bool)):=
 if decide (v47 < (v14.length:Int)) then ((at? v14 v47).bind fun (x50:UInt8)=>if decide (48≤(x50.toNat:Int)) then (if decide ((x50.toNat:Int)≤57) then (xt v14 v46 v47 true) else (if v45 then ((jv (x50.toNat:Int)).bind fun r58=>if decide (97≤r58) then ((jv (x50.toNat:Int)).bind fun r62=>xt v14 v46 v47 (decide (r62≤102))) else (xt v14 v46 v47 false)) else (xt v14 v46 v47 false))) else (if v45 then ((jv (x50.toNat:Int)).bind fun r70=>if decide (97≤r70) then ((jv (x50.toNat:Int)).bind fun r74=>xt v14 v46 v47 (decide (r74≤102))) else (xt v14 v46 v47 false)) else (xt v14 v46 v47 false))) else (Option.map .inr (y0m v46))
noncomputable def z7h (v14:Bs) (v43:Int) (v44:Int) (v45:Bool):Option (Bool):=
 iter (fun (s:Int×Int)=>y40 v14 v45 s.1 s.2) (v43,v44)
noncomputable def Qe (v14:Bs) (v37:Bool):Option (Bool):=
 if v37 then ((v14[1]?).bind fun (x39:UInt8)=>(jv (x39.toNat:Int)).bind fun r41=>z7h v14 48 2 (decide (r41=120))) else (z7h v14 94 0 false)
noncomputable def z7i (v14:Bs):Option (Bool):=
 if decide (2≤(v14.length:Int)) then ((v14[0]?).bind fun (x17:UInt8)=>if decide ((x17.toNat:Int)=48) then ((v14[1]?).bind fun (x21:UInt8)=>(jv (x21.toNat:Int)).bind fun r23=>if decide (r23=98) then (Qe v14 true) else ((jv (x21.toNat:Int)).bind fun r27=>if decide (r27=111) then (Qe v14 true) else ((jv (x21.toNat:Int)).bind fun r31=>Qe v14 (decide (r31=120))))) else (Qe v14 false)) else (Qe v14 false)
noncomputable def z3u (v1:Bs) (v10:Bool):Option (Bool):=
 if v10 then ((sub? v1 1 (v1.length:Int)).bind fun (l12:Bs)=>z7i l12) else (z7i v1)
noncomputable def y32 (v1:Bs):Option (Bool):=
 if decide (1≤(v1.length:Int)) then ((v1[0]?).bind fun (x4:UInt8)=>if decide ((x4.toNat:Int)=45) then (z3u v1 true) else (z3u v1 (decide ((x4.toNat:Int)=43)))) else (z3u v1 false)
noncomputable def z7j (v87:Bool) (v88:Int):Option ((Bool×Int) ⊕ (Int×Int)):=
 some (.inl (v87,v88))
noncomputable def z7p (v46:Int) (v49:Int) (v53:Int) (v55:Bool) (v56:Int) (v83:Int):Option ((Bool×Int) ⊕ (Int×Int)):=
 if decide ((IntKind.wrap .u8 v46)≤v83) then (some (.inr (0,2))) else (if decide (v53≤v56) then (some (.inr (IntKind.wrap .u64 ((shl_ .u64 1 (IntKind.wrap .u64 v49)) - 1),1))) else (if ((decide ((IntKind.wrap .u64 ((IntKind.wrap .u64 (v56 * (IntKind.wrap .u64 v46)))+(IntKind.wrap .u64 v83))) < (IntKind.wrap .u64 (v56 * (IntKind.wrap .u64 v46))))) || (decide ((IntKind.wrap .u64 ((shl_ .u64 1 (IntKind.wrap .u64 v49)) - 1)) < (IntKind.wrap .u64 ((IntKind.wrap .u64 (v56 * (IntKind.wrap .u64 v46)))+(IntKind.wrap .u64 v83)))))) then (some (.inr (IntKind.wrap .u64 ((shl_ .u64 1 (IntKind.wrap .u64 v49)) - 1),1))) else (z7j v55 (IntKind.wrap .u64 ((IntKind.wrap .u64 (v56 * (IntKind.wrap .u64 v46)))+(IntKind.wrap .u64 v83))))))
noncomputable def z7o (v46:Int) (v49:Int) (v53:Int) (v55:Bool) (v56:Int) (x60:Int) (v79:Bool):Option ((Bool×Int) ⊕ (Int×Int)):=
 if v79 then ((jv x60).bind fun r81=>z7p v46 v49 v53 v55 v56 (IntKind.wrap .u8 ((IntKind.wrap .u8 (r81 - 97))+10))) else (some (.inr (0,2)))
noncomputable def Zw (v2:Int) (v46:Int) (v49:Int) (v53:Int) (k57:Nat) (x60:Int) (v55:Bool) (v56:Int):Option ((Bool×Int) ⊕ (Int×Int)):=
 if ((decide (x60=95)) && (decide (v2=0))) then (z7j true v56) else (if ((decide (48≤x60)) && (decide (x60≤57))) then (z7p v46 v49 v53 v55 v56 (IntKind.wrap .u8 (x60 - 48))) else ((jv x60).bind fun r72=>if decide (97≤r72) then ((jv x60).bind fun r76=>z7o v46 v49 v53 v55 v56 x60 (decide (r76≤122))) else (z7o v46 v49 v53 v55 v56 x60 false)))
noncomputable def z3v (v56:Int) (v66:Bool):Option (Int×Int):=
 if v66 then (some (0,2)) else (some (v56,0))
noncomputable def z3x (v1:Bs) (v55:Bool) (v56:Int):Option (Int×Int):=
 if v55 then ((y32 v1).bind fun r63=>z3v v56 (!r63)) else (z3v v56 false)
noncomputable def z3w (v1:Bs) (v2:Int) (v45:Bs) (v46:Int) (v49:Int) (v53:Int):Option (Int×Int):=
 if (0:Int)≤(IntKind.wrap .u64 v49) then (if (yj v45).length≤1000000000 then forL (fun (k:Nat) (x:Int) (s:Bool×Int)=>Zw v2 v46 v49 v53 k x s.1 s.2) (fun (s:Bool×Int)=>z3x v1 s.1 s.2) 0 (yj v45) (false,0) else none) else none
noncomputable def z7k (v1:Bs) (v2:Int) (v45:Bs) (v46:Int) (v49:Int):Option (Int×Int):=
 if decide (v46=10) then (z3w v1 v2 v45 v46 v49 1844674407370955162) else (if decide (v46=16) then (z3w v1 v2 v45 v46 v49 1152921504606846976) else (if (IntKind.wrap .u64 v46)≠0 then (z3w v1 v2 v45 v46 v49 (IntKind.wrap .u64 ((IntKind.wrap .u64 (Int.tdiv 18446744073709551615 (IntKind.wrap .u64 v46)))+1))) else none))
noncomputable def Zx (v1:Bs) (v2:Int) (v3:Int) (v45:Bs) (v46:Int):Option (Int×Int):=
 if decide (v3=0) then (z7k v1 v2 v45 v46 64) else (if ((decide (v3 < 0)) || (decide (64 < v3))) then (some (0,4)) else (z7k v1 v2 v45 v46 v3))
noncomputable def z7l (v1:Bs) (v2:Int) (v3:Int) (v39:Bool):Option (Int×Int):=
 if v39 then ((sub? v1 2 (v1.length:Int)).bind fun (l41:Bs)=>Zx v1 v2 v3 l41 16) else ((sub? v1 1 (v1.length:Int)).bind fun (l43:Bs)=>Zx v1 v2 v3 l43 8)
noncomputable def z7m (v1:Bs) (v2:Int) (v3:Int) (v28:Bool):Option (Int×Int):=
 if v28 then ((sub? v1 2 (v1.length:Int)).bind fun (l30:Bs)=>Zx v1 v2 v3 l30 8) else (if decide (3≤(v1.length:Int)) then ((v1[1]?).bind fun (x34:UInt8)=>(jv (x34.toNat:Int)).bind fun r36=>z7l v1 v2 v3 (decide (r36=120))) else (z7l v1 v2 v3 false))
noncomputable def z7n (v1:Bs) (v2:Int) (v3:Int) (v17:Bool):Option (Int×Int):=
 if v17 then ((sub? v1 2 (v1.length:Int)).bind fun (l19:Bs)=>Zx v1 v2 v3 l19 2) else (if decide (3≤(v1.length:Int)) then ((v1[1]?).bind fun (x23:UInt8)=>(jv (x23.toNat:Int)).bind fun r25=>z7m v1 v2 v3 (decide (r25=111))) else (z7m v1 v2 v3 false))
noncomputable def z3a (v1:Bs) (v2:Int) (v3:Int):Option (Int×Int):=
 if decide (v1=[]) then (some (0,2)) else (if ((decide (2≤v2)) && (decide (v2≤36))) then (Zx v1 v2 v3 v1 v2) else (if decide (v2=0) then ((v1[0]?).bind fun (x7:UInt8)=>if decide ((x7.toNat:Int)=48) then (if decide (3≤(v1.length:Int)) then ((v1[1]?).bind fun (x12:UInt8)=>(jv (x12.toNat:Int)).bind fun r14=>z7n v1 v2 v3 (decide (r14=98))) else (z7n v1 v2 v3 false)) else (Zx v1 v2 v3 v1 10)) else (some (0,3))))
noncomputable def z7q (v29:Int):Option (Int×Int):=
 some (v29,0)
noncomputable def z7r (v14:Bool) (r15:(Int×Int)) (v24:Int):Option (Int×Int):=
 if (0:Int)≤(IntKind.wrap .u64 (wr (v24 - 1))) then (if ((!v14) && (decide ((shl_ .u64 1 (IntKind.wrap .u64 (wr (v24 - 1))))≤r15.1))) then (some (IntKind.wrap .i64 (IntKind.wrap .u64 ((shl_ .u64 1 (IntKind.wrap .u64 (wr (v24 - 1)))) - 1)),1)) else (if (v14 && (decide ((shl_ .u64 1 (IntKind.wrap .u64 (wr (v24 - 1)))) < r15.1))) then (some ((wr (-(IntKind.wrap .i64 (shl_ .u64 1 (IntKind.wrap .u64 (wr (v24 - 1))))))),1)) else (if v14 then (z7q (wr (-(IntKind.wrap .i64 r15.1)))) else (z7q (IntKind.wrap .i64 r15.1))))) else none
noncomputable def z7s (v3:Int) (v14:Bool) (r15:(Int×Int)) (v21:Bool):Option (Int×Int):=
 if v21 then (some (0,r15.2)) else (if decide (v3=0) then (z7r v14 r15 64) else (z7r v14 r15 v3))
noncomputable def z3y (v2:Int) (v3:Int) (v13:Bs) (v14:Bool):Option (Int×Int):=
 (z3a v13 v2 v3).bind fun r15=>if decide (r15.2≠0) then (if (0:Int)≤r15.2∧r15.2≤(4:Int) then (z7s v3 v14 r15 (decide (r15.2≠1))) else none) else (z7s v3 v14 r15 false)
noncomputable def y33 (v1:Bs) (v2:Int) (v3:Int):Option (Int×Int):=
 if decide (v1=[]) then (some (0,2)) else ((v1[0]?).bind fun (x5:UInt8)=>if decide ((x5.toNat:Int)=43) then ((sub? v1 1 (v1.length:Int)).bind fun (l8:Bs)=>z3y v2 v3 l8 false) else (if decide ((x5.toNat:Int)=45) then ((sub? v1 1 (v1.length:Int)).bind fun (l11:Bs)=>z3y v2 v3 l11 true) else (z3y v2 v3 v1 false)))
noncomputable def z3z (k15:Nat) (x18:Int) (v14:Int):Option (Int ⊕ (Int×Int)):=
 if decide (9 < (IntKind.wrap .u8 (x18 - 48))) then (some (.inr (0,2))) else (some (.inl (wr ((wr (v14 * 10))+(IntKind.wrap .i64 (IntKind.wrap .u8 (x18 - 48)))))))
noncomputable def z0w (v23:Int):Option (Int×Int):=
 some (v23,0)
noncomputable def z0z (v1:Bs) (v14:Int):Option (Int×Int):=
 (v1[0]?).bind fun (x19:UInt8)=>if decide ((x19.toNat:Int)=45) then (if -9223372036854775807≤v14∧v14≤9223372036854775807 then (z0w (-v14)) else none) else (z0w v14)
noncomputable def z0y (v1:Bs) (v13:Bs):Option (Int×Int):=
 if (yj v13).length≤1000000000 then forL (fun (k:Nat) (x:Int) (s:Int)=>z3z k x s) (fun (s:Int)=>z0z v1 s) 0 (yj v13) 0 else none
noncomputable def z0x (v1:Bs) (v8:Bool):Option (Int×Int):=
 if v8 then ((sub? v1 1 (v1.length:Int)).bind fun (l10:Bs)=>if decide ((l10.length:Int) < 1) then (some (0,2)) else (z0y v1 l10)) else (z0y v1 v1)
noncomputable def z0d (v1:Bs):Option (Int×Int):=
 if ((false && ((decide (0 < (v1.length:Int))) && (decide ((v1.length:Int) < 10)))) || (true && ((decide (0 < (v1.length:Int))) && (decide ((v1.length:Int) < 19))))) then ((v1[0]?).bind fun (x3:UInt8)=>if decide ((x3.toNat:Int)=45) then (z0x v1 true) else (z0x v1 (decide ((x3.toNat:Int)=43)))) else ((y33 v1 10 0).bind fun r27=>some (r27.1,r27.2))
noncomputable def Zr (s1:Bs):Option (Int×Int):=
 (z0d s1).bind fun r2=>if decide (r2.2≠0) then ((y3v [65,116,111,105] s1 0 0 r2.2).bind fun r5=>some (r2.1,r5)) else (some (r2.1,0))
noncomputable def z7a (v29:Bool):Option (Unit ⊕ (Int×Bool)):=
 if v29 then (some (.inr (0,false))) else (some (.inl ()))
noncomputable def z69 (i18:Nat) (x21:UInt8):Option (Unit ⊕ (Int×Bool)):=
 if decide ((x21.toNat:Int) < 48) then (z7a true) else (z7a (decide (57 < (x21.toNat:Int))))
noncomputable def z3p (s1:Bs):Option (Int×Bool):=
 (Zr s1).bind fun r22=>some (r22.1,decide (r22.2=0))
noncomputable def kq (s1:Bs) (r3:(Bs)) (v16:Bool):Option (Int×Bool):=
 if v16 then (some (0,false)) else (if r3.length≤1000000000 then forL (fun (k:Nat) (x:UInt8) (s:Unit)=>z69 k x) (fun (s:Unit)=>z3p s1) 0 r3 () else none)
noncomputable def z28 (s1:Bs) (most2:Int):Option (Int×Bool):=
 (z6c s1 [45]).bind fun r3=>if decide (r3=[]) then (kq s1 r3 true) else (if decide (most2 < (r3.length:Int)) then (kq s1 r3 true) else ((r3[0]?).bind fun (x9:UInt8)=>if decide ((x9.toNat:Int)=48) then (kq s1 r3 (decide (s1≠[48]))) else (kq s1 r3 false)))
noncomputable def z6l (s1:Bs):Option (Int×Bool):=
 (z28 s1 9).bind fun r2=>some (r2.1,r2.2)
noncomputable def Yy (n1:Int) (low2:Int) (high3:Int):Option (Bool):=
 some ((decide (n1 < low2)) || (decide (high3 < n1)))
noncomputable def Wj (v19:Bool):Option (Bool):=
 some v19
noncomputable def z2l (v32:Bool):Option (Unit ⊕ (Bool)):=
 if v32 then (some (.inr false)) else (some (.inl ()))
noncomputable def y3o (k2:Nat) (x5:UInt8):Option (Unit ⊕ (Bool)):=
 (z6i (x5.toNat:Int)).bind fun r22=>if !r22 then ((z25 (x5.toNat:Int)).bind fun r26=>if !r26 then (z2l (decide ((x5.toNat:Int)≠45))) else (z2l false)) else (z2l false)
noncomputable def y3p (s1:Bs):Option (Bool):=
 if decide (s1≠[]) then (if decide ((s1.length:Int)≤63) then ((s1[0]?).bind fun (x10:UInt8)=>if decide ((x10.toNat:Int)≠45) then ((at? s1 (wr ((s1.length:Int) - 1))).bind fun (x14:UInt8)=>Wj (decide ((x14.toNat:Int)≠45))) else (Wj false)) else (Wj false)) else (Wj false)
noncomputable def y3z (s1:Bs):Option (Bool):=
 if s1.length≤1000000000 then forL (fun (k:Nat) (x:UInt8) (s:Unit)=>y3o k x) (fun (s:Unit)=>y3p s1) 0 s1 () else none
noncomputable def Wl (v23:Bool):Option (Bool):=
 some v23
noncomputable def z9v (k6:Nat) (x9:Bs):Option (Unit ⊕ (Bool)):=
 (y3z x9).bind fun r26=>if !r26 then (some (.inr false)) else (some (.inl ()))
noncomputable def z9w (s1:Bs) (r2:(Bs×Bs×Bool)):Option (Bool):=
 (z6l r2.2.1).bind fun r10=>if decide ((s1.length:Int)≤255) then (if !r2.2.2 then (Wl true) else (if r10.2 then ((Yy r10.1 1 65535).bind fun r18=>Wl (!r18)) else (Wl false))) else (Wl false)
noncomputable def uz (s1:Bs):Option (Bool):=
 (km s1 [58]).bind fun r2=>(ve r2.1 [46]).bind fun r4=>if r4.length≤1000000000 then forL (fun (k:Nat) (x:Bs) (s:Unit)=>z9v k x) (fun (s:Unit)=>z9w s1 r2) 0 r4 () else none
noncomputable def z2k (v13:Bool):Option (Unit ⊕ (Bool)):=
 if v13 then (some (.inr false)) else (some (.inl ()))
noncomputable def z9t (low2:Int) (high3:Int) (k4:Nat) (x7:UInt8):Option (Unit ⊕ (Bool)):=
 if decide ((x7.toNat:Int) < low2) then (z2k true) else (z2k (decide (high3 < (x7.toNat:Int))))
noncomputable def z9u:Option (Bool):=
 some true
noncomputable def Zs (s1:Bs) (low2:Int) (high3:Int):Option (Bool):=
 if s1.length≤1000000000 then forL (fun (k:Nat) (x:UInt8) (s:Unit)=>z9t low2 high3 k x) (fun (s:Unit)=>z9u) 0 s1 () else none
noncomputable def Yp (v17:Bool):Option (Int):=
 if v17 then some 3 else some 0
noncomputable def z0a (s1:Bs):Option (Int):=
 if decide (1000 < (s1.length:Int)) then (Yp true) else ((y3u s1 [47]).bind fun r4=>if !r4 then (Yp true) else ((Zs s1 33 126).bind fun r8=>if !r8 then (Yp true) else ((z2u s1 [63,35]).bind fun r12=>Yp r12)))
noncomputable def ux (v12:Bool):Option (Int):=
 if v12 then some 3 else some 0
noncomputable def um (s1:Bs):Option (Int):=
 if decide (1000 < (s1.length:Int)) then (ux true) else ((Zs s1 33 126).bind fun r4=>if !r4 then (ux true) else ((Yt s1 [35]).bind fun r8=>ux r8))
noncomputable def z5m (s14:Bs):Option (Bs):=
 some s14
noncomputable def Qy (s3:Bs) (v10:Bool):Option (Bs ⊕ (Bs)):=
 if v10 then ((sub? s3 0 (wr ((s3.length:Int) - 1))).bind fun (l12:Bs)=>some (.inl l12)) else (Option.map .inr (z5m s3))
noncomputable def z5l (c2:Int) (s3:Bs):Option (Bs ⊕ (Bs)):=
 if decide (0 < (s3.length:Int)) then ((at? s3 (wr ((s3.length:Int) - 1))).bind fun (x7:UInt8)=>Qy s3 (decide ((x7.toNat:Int)=c2))) else (Qy s3 false)
noncomputable def Yq (s1:Bs) (c2:Int):Option (Bs):=
 iter (fun (s:Bs)=>z5l c2 s) s1
noncomputable def z5o (s14:Bs):Option (Bs):=
 some s14
noncomputable def Qz (s3:Bs) (v10:Bool):Option (Bs ⊕ (Bs)):=
 if v10 then ((sub? s3 1 (s3.length:Int)).bind fun (l12:Bs)=>some (.inl l12)) else (Option.map .inr (z5o s3))
noncomputable def z5n (c2:Int) (s3:Bs):Option (Bs ⊕ (Bs)):=
 if decide (0 < (s3.length:Int)) then ((s3[0]?).bind fun (x7:UInt8)=>Qz s3 (decide ((x7.toNat:Int)=c2))) else (Qz s3 false)
noncomputable def Wu (s1:Bs) (c2:Int):Option (Bs):=
 iter (fun (s:Bs)=>z5n c2 s) s1
noncomputable def z2a (s1:Bs) (cutset2:Bs) (v9:Bool):Option (Bs):=
 if v9 then ((cutset2[0]?).bind fun (x11:UInt8)=>(Yq s1 (x11.toNat:Int)).bind fun r13=>(Wu r13 (x11.toNat:Int)).bind fun r15=>some r15) else none
noncomputable def Zq (s1:Bs) (cutset2:Bs):Option (Bs):=
 if ((decide (s1=[])) || (decide (cutset2=[]))) then some s1 else (if decide ((cutset2.length:Int)=1) then ((cutset2[0]?).bind fun (x6:UInt8)=>z2a s1 cutset2 (decide ((x6.toNat:Int) < 128))) else (z2a s1 cutset2 false))
noncomputable def Wt (v12:Bool):Option (Bool):=
 some v12
noncomputable def z0b (s1:Bs):Option (Bool):=
 if decide ((s1.length:Int)≤2000) then ((Zs s1 32 126).bind fun r4=>if r4 then ((Zq s1 [32]).bind fun r8=>Wt (decide (r8=s1))) else (Wt false)) else (Wt false)
noncomputable def z9z (k3:Nat) (x6:zo):Option (Unit ⊕ (Int)):=
 (Yx x6.Name).bind fun r9=>if !r9 then (some (.inr 5)) else ((z0b x6.Value).bind fun r12=>if !r12 then (some (.inr 3)) else (some (.inl ())))
noncomputable def z90:Option (Int):=
 some 0
noncomputable def z26 (l1:(List zo)):Option (Int):=
 if decide (50 < (l1.length:Int)) then some 2 else (if l1.length≤1000000000 then forL (fun (k:Nat) (x:zo) (s:Unit)=>z9z k x) (fun (s:Unit)=>z90) 0 l1 () else none)
noncomputable def uj (r1:zu) (v25:Bool):Option (Int):=
 if v25 then some 3 else ((z26 r1.Headers).bind fun r27=>if decide (r27≠0) then some r27 else (if decide (20000 < (r1.Body.length:Int)) then some 2 else some 0))
noncomputable def vo (r1:zu):Option (Int):=
 (z0c r1.At).bind fun r2=>if !r2 then some 1 else ((Yx r1.Method).bind fun r5=>if !r5 then some 5 else ((uz r1.Host).bind fun r8=>if !r8 then (uj r1 true) else ((z0a r1.Path).bind fun r12=>if decide (r12≠0) then (uj r1 true) else ((um r1.Query).bind fun r16=>if decide (r16≠0) then (uj r1 true) else ((z0b r1.From).bind fun r20=>uj r1 (!r20))))))
noncomputable def ua (s1:Bs):Option (Bs×Int):=
 (uz s1).bind fun r2=>if !r2 then (some ([],3)) else ((jk s1).bind fun r5=>(km r5 [58]).bind fun r7=>if (((decide (r7.2.1=[])) || (decide (r7.2.1=[56,48]))) || (decide (r7.2.1=[52,52,51]))) then (some (r7.1,0)) else (if r7.1.length+[58].length≤1000000000 then (if (r7.1++[58]).length+r7.2.1.length≤1000000000 then (some (((r7.1++[58])++r7.2.1),0)) else none) else none))
noncomputable def uy (l1:(List Int)) (c2:Int):Option (Int×(List Int)):=
 if l1.length+1≤1000000000 then (some (0,(l1++[c2]))) else none
noncomputable def z24 (c1:Int):Option (Bool):=
 (z25 c1).bind fun r2=>some ((r2 || ((decide (97≤c1)) && (decide (c1≤102)))) || ((decide (65≤c1)) && (decide (c1≤70))))
noncomputable def Wi (v17:Bool):Option (Bool):=
 some v17
noncomputable def Yu (s1:Bs) (v2:Int):Option (Bool):=
 if decide ((wr (v2+2)) < (s1.length:Int)) then ((at? s1 (wr (v2+1))).bind fun (x5:UInt8)=>(z24 (x5.toNat:Int)).bind fun r7=>if r7 then ((at? s1 (wr (v2+2))).bind fun (x11:UInt8)=>(z24 (x11.toNat:Int)).bind fun r13=>Wi r13) else (Wi false)) else (Wi false)
noncomputable def z2w (s1:Bs) (base2:Int) (bitSize3:Int):Option (Int×Int):=
 (z3a s1 base2 bitSize3).bind fun r4=>if decide (r4.2≠0) then ((y3v [80,97,114,115,101,85,105,110,116] s1 base2 bitSize3 r4.2).bind fun r7=>some (r4.1,r7)) else (some (r4.1,0))
noncomputable def z22 (s1:Bs) (v2:Int):Option (Int):=
 (sub? s1 (wr (v2+1)) (wr (v2+3))).bind fun (l3:Bs)=>(z2w l3 16 8).bind fun r5=>if decide (r5.2≠0) then some 0 else (some (IntKind.wrap .u8 r5.1))
noncomputable def z2m (v14:Bool):Option (Bool):=
 some v14
noncomputable def xo (c1:Int):Option (Bool):=
 (z6i c1).bind fun r2=>if r2 then (z2m true) else ((z25 c1).bind fun r6=>if r6 then (z2m true) else ((Wv [45,46,95,126] c1).bind fun r10=>z2m (decide (0≤r10))))
noncomputable def xn (c1:Int):Option (Bs):=
 (at? [48,49,50,51,52,53,54,55,56,57,65,66,67,68,69,70] (shr_ .u8 c1 4)).bind fun (x2:UInt8)=>(at? [48,49,50,51,52,53,54,55,56,57,65,66,67,68,69,70] (and_ .u8 c1 15)).bind fun (x4:UInt8)=>some (strN [37,(x2.toNat:Int),(x4.toNat:Int)])
noncomputable def z2v (l1:(List Int)) (s2:Bs):Option (Int×Int×(List Int)):=
 if l1.length+s2.length≤1000000000 then (some ((s2.length:Int),0,(l1++yj s2))) else none
noncomputable def Wh (i26:Int) (l27:(List Int)):Option ((Int×(List Int)) ⊕ (Bs×Bool)):=
 some (.inl (wr (i26+1),l27))
noncomputable def z2i (i2:Int) (l25:(List Int)):Option ((Int×(List Int)) ⊕ (Bs×Bool)):=
 Wh (wr (i2+2)) l25
noncomputable def z50 (l28:(List Int)):Option (Bs×Bool):=
 if byR l28=true then (some ((strN l28),true)) else none
noncomputable def ka (s1:Bs) (i2:Int) (l3:(List Int)):Option ((Int×(List Int)) ⊕ (Bs×Bool)):=
 if decide (i2 < (s1.length:Int)) then ((at? s1 i2).bind fun (x6:UInt8)=>if decide ((x6.toNat:Int)≠37) then ((uy l3 (x6.toNat:Int)).bind fun r9=>Wh i2 r9.2) else ((Yu s1 i2).bind fun r11=>if !r11 then (some (.inr ([],false))) else ((z22 s1 i2).bind fun r14=>(xo r14).bind fun r16=>if r16 then ((uy l3 r14).bind fun r19=>z2i i2 r19.2) else ((xn r14).bind fun r21=>(z2v l3 r21).bind fun r23=>z2i i2 r23.2.2)))) else (Option.map .inr (z50 l3))
noncomputable def Wz (s1:Bs):Option (Bs×Bool):=
 iter (fun (s:Int×(List Int))=>ka s1 s.1 s.2) (0,([]:List Int))
noncomputable def Ws (out29:(List Bs)):Option ((List Bs) ⊕ (Bs×Int)):=
 some (.inl out29)
noncomputable def z2r (r10:((List Bs))) (k13:Nat) (out26:(List Bs)):Option ((List Bs) ⊕ (Bs×Int)):=
 if decide ((k13:Int)=(wr ((r10.length:Int) - 1))) then (if out26.length+1≤1000000000 then (Ws (out26++([[]]))) else none) else (Ws out26)
noncomputable def Wr (r10:((List Bs))) (k13:Nat) (x16:Bs) (l12:(List Bs)):Option ((List Bs) ⊕ (Bs×Int)):=
 if decide (x16=[46]) then (z2r r10 k13 l12) else (if decide (x16=[46,46]) then (if (0:Int)≤(max (wr ((l12.length:Int) - 1)) 0)∧(max (wr ((l12.length:Int) - 1)) 0)≤(l12.length:Int) then (z2r r10 k13 (l12.take (max (wr ((l12.length:Int) - 1)) 0).toNat)) else none) else (if l12.length+1≤1000000000 then (Ws (l12++[x16])) else none))
noncomputable def z2s (l12:(List Bs)):Option (Bs×Int):=
 (vu l12 [47]).bind fun r17=>if [47].length+r17.length≤1000000000 then (some (([47]++r17),0)) else none
noncomputable def Zt (s1:Bs):Option (Bs×Int):=
 (z0a s1).bind fun r2=>if decide (r2≠0) then (some ([],r2)) else ((Wz s1).bind fun r5=>if !r5.2 then (some ([],9)) else ((sub? r5.1 1 (r5.1.length:Int)).bind fun (l8:Bs)=>(ve l8 [47]).bind fun r10=>if r10.length≤1000000000 then forL (fun (k:Nat) (x:Bs) (s:(List Bs))=>Wr r10 k x s) (fun (s:(List Bs))=>z2s s) 0 r10 [] else none))
noncomputable def Zk (i22:Int) (l23:(List Int)):Option ((Int×(List Int)) ⊕ (Bs×Bool)):=
 some (.inl (wr (i22+1),l23))
noncomputable def z52 (l24:(List Int)):Option (Bs×Bool):=
 if byR l24=true then (some ((strN l24),true)) else none
noncomputable def jj (s1:Bs) (plus2:Bool) (i3:Int) (l4:(List Int)):Option ((Int×(List Int)) ⊕ (Bs×Bool)):=
 if decide (i3 < (s1.length:Int)) then ((at? s1 i3).bind fun (x7:UInt8)=>if ((decide ((x7.toNat:Int)=43)) && plus2) then ((uy l4 32).bind fun r10=>Zk i3 r10.2) else (if decide ((x7.toNat:Int)≠37) then ((uy l4 (x7.toNat:Int)).bind fun r13=>Zk i3 r13.2) else ((Yu s1 i3).bind fun r15=>if !r15 then (some (.inr ([],false))) else ((z22 s1 i3).bind fun r18=>(uy l4 r18).bind fun r20=>Zk (wr (i3+2)) r20.2)))) else (Option.map .inr (z52 l4))
noncomputable def Yv (s1:Bs) (plus2:Bool):Option (Bs×Bool):=
 iter (fun (s:Int×(List Int))=>jj s1 plus2 s.1 s.2) (0,([]:List Int))
noncomputable def y20 (p1:zj→Option (Bool)) (k2:Nat) (x5:zj):Option (Unit ⊕ (Int)):=
 (p1 x5).bind fun r8=>if r8 then (some (.inr (k2:Int))) else (some (.inl ()))
noncomputable def y21:Option (Int):=
 some (-1)
noncomputable def y3y (s1:(List zj)) (p1:zj→Option (Bool)):Option (Int):=
 if s1.length≤1000000000 then forL (fun (k:Nat) (x:zj) (s:Unit)=>y20 p1 k x) (fun (s:Unit)=>y21) 0 s1 () else none
noncomputable def z5s (j6:Int) (i17:Int) (s18:(List zj)):Option ((Int×Int×(List zj)) ⊕ ((List zj))):=
 some (.inl (i17,wr (j6+1),s18))
noncomputable def z9h (i19:Int) (s20:(List zj)):Option ((List zj)):=
 if (0:Int)≤i19∧i19 < (s20.length:Int) then (if (0:Int)≤i19∧i19≤((s20.take i19.toNat++List.replicate (s20.length - i19.toNat) (zj.mk [] [])).length:Int) then (some ((s20.take i19.toNat++List.replicate (s20.length - i19.toNat) (zj.mk [] [])).take i19.toNat)) else none) else none
noncomputable def y23 (p1:zj→Option (Bool)) (i5:Int) (j6:Int) (l7:(List zj)):Option ((Int×Int×(List zj)) ⊕ ((List zj))):=
 if decide (j6 < (l7.length:Int)) then ((at? l7 j6).bind fun (x10:zj)=>(p1 x10).bind fun r12=>if !r12 then ((at? l7 i5).bind fun (x15:zj)=>z5s j6 (wr (i5+1)) (l7.set i5.toNat x10)) else (z5s j6 i5 l7)) else (Option.map .inr (z9h i5 l7))
noncomputable def z2y (s1:(List zj)) (p1:zj→Option (Bool)):Option ((List zj)):=
 (y3y s1 p1).bind fun r2=>if decide (r2=(-1)) then some s1 else (iter (fun (s:Int×Int×(List zj))=>y23 p1 s.1 s.2.1 s.2.2) (r2,wr (r2+1),s1))
noncomputable def z2q (out24:(List zj)):Option ((List zj) ⊕ ((List zj)×Int)):=
 some (.inl out24)
noncomputable def Wp (k8:Nat) (x11:Bs) (l7:(List zj)):Option ((List zj) ⊕ ((List zj)×Int)):=
 if decide (x11=[]) then (z2q l7) else ((km x11 [61]).bind fun r16=>(Yv r16.1 true).bind fun r18=>(Yv r16.2.1 true).bind fun r20=>if ((!r18.2) || (!r20.2)) then (some (.inr ([],9))) else (if l7.length+1≤1000000000 then (z2q (l7++[(zj.mk r18.1 r20.1)])) else none))
noncomputable def xl (l7:(List zj)):Option ((List zj)×Int):=
 if decide (100 < (l7.length:Int)) then (some ([],2)) else (some (l7,0))
noncomputable def kz (s1:Bs):Option ((List zj)×Int):=
 (um s1).bind fun r2=>if decide (r2≠0) then (some ([],r2)) else ((ve s1 [38]).bind fun r5=>if r5.length≤1000000000 then forL (fun (k:Nat) (x:Bs) (s:(List zj))=>Wp k x s) (fun (s:(List zj))=>xl s) 0 r5 [] else none)
noncomputable def z6j (p1:zj):Option (Bool):=
 some ((p1.Name == []) && ((p1.Value == []) && true))
noncomputable def z58 (x6:Int) (n7:Int):Option (Int):=
 (at? [0,1,2,2,3,3,3,3,4,4,4,4,4,4,4,4,5,5,5,5,5,5,5,5,5,5,5,5,5,5,5,5,6,6,6,6,6,6,6,6,6,6,6,6,6,6,6,6,6,6,6,6,6,6,6,6,6,6,6,6,6,6,6,6,7,7,7,7,7,7,7,7,7,7,7,7,7,7,7,7,7,7,7,7,7,7,7,7,7,7,7,7,7,7,7,7,7,7,7,7,7,7,7,7,7,7,7,7,7,7,7,7,7,7,7,7,7,7,7,7,7,7,7,7,7,7,7,7,8,8,8,8,8,8,8,8,8,8,8,8,8,8,8,8,8,8,8,8,8,8,8,8,8,8,8,8,8,8,8,8,8,8,8,8,8,8,8,8,8,8,8,8,8,8,8,8,8,8,8,8,8,8,8,8,8,8,8,8,8,8,8,8,8,8,8,8,8,8,8,8,8,8,8,8,8,8,8,8,8,8,8,8,8,8,8,8,8,8,8,8,8,8,8,8,8,8,8,8,8,8,8,8,8,8,8,8,8,8,8,8,8,8,8,8,8,8,8,8,8,8,8,8,8,8,8,8] (IntKind.wrap .u8 x6)).bind fun (x8:UInt8)=>some (wr (n7+(IntKind.wrap .i64 (x8.toNat:Int))))
noncomputable def z6a (x3:Int) (n4:Int):Option (Int):=
 if decide (256≤x3) then (z58 (shr_ .u32 x3 8) (wr (n4+8))) else (z58 x3 n4)
noncomputable def y31 (x1:Int):Option (Int):=
 if decide (65536≤x1) then (z6a (shr_ .u32 x1 16) 16) else (z6a x1 0)
noncomputable def z55 (x9:Int) (n10:Int):Option (Int):=
 (at? [0,1,2,2,3,3,3,3,4,4,4,4,4,4,4,4,5,5,5,5,5,5,5,5,5,5,5,5,5,5,5,5,6,6,6,6,6,6,6,6,6,6,6,6,6,6,6,6,6,6,6,6,6,6,6,6,6,6,6,6,6,6,6,6,7,7,7,7,7,7,7,7,7,7,7,7,7,7,7,7,7,7,7,7,7,7,7,7,7,7,7,7,7,7,7,7,7,7,7,7,7,7,7,7,7,7,7,7,7,7,7,7,7,7,7,7,7,7,7,7,7,7,7,7,7,7,7,7,8,8,8,8,8,8,8,8,8,8,8,8,8,8,8,8,8,8,8,8,8,8,8,8,8,8,8,8,8,8,8,8,8,8,8,8,8,8,8,8,8,8,8,8,8,8,8,8,8,8,8,8,8,8,8,8,8,8,8,8,8,8,8,8,8,8,8,8,8,8,8,8,8,8,8,8,8,8,8,8,8,8,8,8,8,8,8,8,8,8,8,8,8,8,8,8,8,8,8,8,8,8,8,8,8,8,8,8,8,8,8,8,8,8,8,8,8,8,8,8,8,8,8,8,8,8,8,8] (IntKind.wrap .u8 x9)).bind fun (x11:UInt8)=>some (wr (n10+(IntKind.wrap .i64 (x11.toNat:Int))))
noncomputable def z56 (x6:Int) (n7:Int):Option (Int):=
 if decide (256≤x6) then (z55 (shr_ .u64 x6 8) (wr (n7+8))) else (z55 x6 n7)
noncomputable def z57 (x3:Int) (n4:Int):Option (Int):=
 if decide (65536≤x3) then (z56 (shr_ .u64 x3 16) (wr (n4+16))) else (z56 x3 n4)
noncomputable def y30 (x1:Int):Option (Int):=
 if decide (4294967296≤x1) then (z57 (shr_ .u64 x1 32) 32) else (z57 x1 0)
noncomputable def z6k (x1:Int):Option (Int):=
 if false then ((y31 (IntKind.wrap .u32 x1)).bind fun r3=>some r3) else ((y30 x1).bind fun r5=>some r5)
noncomputable def z9f (i4:Int) (data28:(List zj)):Option ((Int×(List zj)) ⊕ ((List zj))):=
 some (.inl (wr (i4+1),data28))
noncomputable def z5r (i4:Int) (j8:Int) (l9:(List zj)) (v20:Bool):Option ((Int×(List zj)) ⊕ ((Int×(List zj)) ⊕ ((List zj)))):=
 if v20 then ((at? l9 (wr (j8 - 1))).bind fun (x22:zj)=>(at? l9 j8).bind fun (x24:zj)=>(at? (l9.set j8.toNat x22) (wr (j8 - 1))).bind fun (x26:zj)=>some (.inl (wr (j8 - 1),((l9.set j8.toNat x22).set ((wr (j8 - 1)).toNat) x24)))) else (Option.map .inr (z9f i4 l9))
noncomputable def y2u (a2:Int) (p3:zj→zj→Option (Int)) (i4:Int) (j8:Int) (l9:(List zj)):Option ((Int×(List zj)) ⊕ ((Int×(List zj)) ⊕ ((List zj)))):=
 if decide (a2 < j8) then ((at? l9 j8).bind fun (x13:zj)=>(at? l9 (wr (j8 - 1))).bind fun (x15:zj)=>(p3 x13 x15).bind fun r17=>z5r i4 j8 l9 (decide (r17 < 0))) else (z5r i4 j8 l9 false)
noncomputable def y2v (a2:Int) (b3:Int) (p3:zj→zj→Option (Int)) (i4:Int) (l5:(List zj)):Option ((Int×(List zj)) ⊕ ((List zj))):=
 if decide (i4 < b3) then (iter (fun (s:Int×(List zj))=>y2u a2 p3 i4 s.1 s.2) (i4,l5)) else (some (.inr l5))
noncomputable def z6e (data1:(List zj)) (a2:Int) (b3:Int) (p3:zj→zj→Option (Int)):Option ((List zj)):=
 iter (fun (s:Int×(List zj))=>y2v a2 b3 p3 s.1 s.2) (wr (a2+1),data1)
noncomputable def y2t (v1:(List zj)) (p4:zj→zj→Option (Int)) (v5:Int) (v6:Int) (v7:Int) (v8:Bool) (v9:Bool):Option ((Int×Int×Int×Bool×Bool) ⊕ ((List zj))):=
 if decide ((wr (v6 - v5))≤12) then ((z6e v1 v5 v6 p4).bind fun r12=>if r12.length=v1.length then (some (.inr r12)) else none) else (if decide (v7=0) then none else none)
noncomputable def z6d (v1:(List zj)) (v2:Int) (v3:Int) (v4:Int) (p4:zj→zj→Option (Int)):Option ((List zj)):=
 iter (fun (s:Int×Int×Int×Bool×Bool)=>y2t v1 p4 s.1 s.2.1 s.2.2.1 s.2.2.2.1 s.2.2.2.2) (v2,v3,v4,true,true)
noncomputable def uk (x1:(List zj)) (p1:zj→zj→Option (Int)):Option ((List zj)):=
 (z6k (IntKind.wrap .u64 (x1.length:Int))).bind fun r2=>(z6d x1 0 (x1.length:Int) r2 p1).bind fun r4=>if r4.length=x1.length then some r4 else none
noncomputable def vf (a1:zj) (b2:zj):Option (Int):=
 if decide (a1.Name≠b2.Name) then ((Ww a1.Name b2.Name).bind fun r4=>some r4) else ((Ww a1.Value b2.Value).bind fun r6=>some r6)
noncomputable def Wg (l22:(List Int)):Option ((List Int) ⊕ (Bs)):=
 some (.inl l22)
noncomputable def We (k3:Nat) (x6:UInt8) (l2:(List Int)):Option ((List Int) ⊕ (Bs)):=
 if decide ((x6.toNat:Int)=32) then ((uy l2 43).bind fun r11=>Wg r11.2) else ((xo (x6.toNat:Int)).bind fun r13=>if r13 then ((uy l2 (x6.toNat:Int)).bind fun r16=>Wg r16.2) else ((xn (x6.toNat:Int)).bind fun r18=>(z2v l2 r18).bind fun r20=>Wg r20.2.2))
noncomputable def z2h (l2:(List Int)):Option (Bs):=
 if byR l2=true then (some (strN l2)) else none
noncomputable def z23 (s1:Bs):Option (Bs):=
 if s1.length≤1000000000 then forL (fun (k:Nat) (x:UInt8) (s:(List Int))=>We k x s) (fun (s:(List Int))=>z2h s) 0 s1 ([]:List Int) else none
noncomputable def Zl (k4:Nat) (x7:zj) (l3:(List Bs)):Option ((List Bs) ⊕ (Bs×Int)):=
 if ((x7.Name == []) && ((x7.Value == []) && true)) then (some (.inr ([],3))) else ((z23 x7.Name).bind fun r14=>if r14.length+[61].length≤1000000000 then ((z23 x7.Value).bind fun r17=>if (r14++[61]).length+r17.length≤1000000000 then (if l3.length+1≤1000000000 then (some (.inl (l3++([((r14++[61])++r17)])))) else none) else none) else none)
noncomputable def Wn (l3:(List Bs)):Option (Bs×Int):=
 (vu l3 [38]).bind fun r8=>if decide (1000 < (r8.length:Int)) then (some ([],2)) else (some (r8,0))
noncomputable def ky (l1:(List zj)):Option (Bs×Int):=
 if decide (100 < (l1.length:Int)) then (some ([],2)) else (if l1.length≤1000000000 then forL (fun (k:Nat) (x:zj) (s:(List Bs))=>Zl k x s) (fun (s:(List Bs))=>Wn s) 0 l1 [] else none)
noncomputable def Wq (k26:Nat) (l25:(List zo)):Option ((List zo) ⊕ (zu×Int)):=
 (l25[k26]?).bind fun (x30:zo)=>(jk x30.Name).bind fun r32=>some (.inl (l25.set k26 (zo.mk r32 x30.Value)))
noncomputable def z54 (v1:zu) (r5:(Bs×Int)) (r7:(Bs×Int)) (r18:(Bs×Int)) (r21:(Bs)) (l25:(List zo)):Option (zu×Int):=
 some ((zu.mk v1.At r21 r5.1 r7.1 r18.1 v1.From l25 v1.Body),0)
noncomputable def kb (v1:zu):Option (zu×Int):=
 (vo v1).bind fun r2=>if decide (r2≠0) then (some ((zu.mk 0 [] [] [] [] [] [] []),r2)) else ((ua v1.Host).bind fun r5=>(Zt v1.Path).bind fun r7=>if decide (r7.2≠0) then (some ((zu.mk 0 [] [] [] [] [] [] []),r7.2)) else ((kz v1.Query).bind fun r10=>if decide (r10.2≠0) then (some ((zu.mk 0 [] [] [] [] [] [] []),r10.2)) else ((z2y r10.1 (fun (a0:zj)=>z6j a0)).bind fun r13=>(uk r13 (fun (a0:zj) (a1:zj)=>vf a0 a1)).bind fun r15=>if r15.length=r13.length then ((ky r15).bind fun r18=>if decide (r18.2≠0) then (some ((zu.mk 0 [] [] [] [] [] [] []),r18.2)) else ((Yr v1.Method).bind fun r21=>(ul v1.Headers).bind fun r23=>if r23.length≤1000000000 then rng (fun (k:Nat) (s:(List zo))=>Wq k s) (fun (s:(List zo))=>z54 v1 r5 r7 r18 r21 s) r23.length 0 r23 else none)) else none)))
noncomputable def y0g (i2:Nat) (x5:UInt8):Option (Unit ⊕ (Bool)):=
 if !(((decide (97≤(x5.toNat:Int))) && (decide ((x5.toNat:Int)≤122))) || ((decide (0 < (i2:Int))) && ((((decide (48≤(x5.toNat:Int))) && (decide ((x5.toNat:Int)≤57))) || (decide ((x5.toNat:Int)=45))) || (decide ((x5.toNat:Int)=95))))) then (some (.inr false)) else (some (.inl ()))
noncomputable def y4d (s1:Bs):Option (Bool):=
 some ((decide (s1≠[])) && (decide ((s1.length:Int)≤40)))
noncomputable def z29 (s1:Bs):Option (Bool):=
 if s1.length≤1000000000 then forL (fun (k:Nat) (x:UInt8) (s:Unit)=>y0g k x) (fun (s:Unit)=>y4d s1) 0 s1 () else none
noncomputable def z47 (x6:vj) (v17:Bool):Option (Unit ⊕ (Int)):=
 if v17 then (some (.inr 7)) else ((Yy x6.Weight 1 100).bind fun r19=>if r19 then (some (.inr 1)) else (some (.inl ())))
noncomputable def y10 (l1:(List vj)) (k3:Nat) (x6:vj):Option (Unit ⊕ (Int)):=
 (z29 x6.Key).bind fun r9=>if !r9 then (some (.inr 5)) else (if decide (0 < (k3:Int)) then ((at? l1 ((k3:Int) - 1)).bind fun (x14:vj)=>z47 x6 (Op.bytesLess x6.Key x14.Key || x6.Key == x14.Key)) else (z47 x6 false))
noncomputable def y11:Option (Int):=
 some 0
noncomputable def y3t (l1:(List vj)):Option (Int):=
 if decide (50 < (l1.length:Int)) then some 2 else (if l1.length≤1000000000 then forL (fun (k:Nat) (x:vj) (s:Unit)=>y10 l1 k x) (fun (s:Unit)=>y11) 0 l1 () else none)
noncomputable def y1u (k3:Nat) (x6:vj) (sum2:Int):Option (Int ⊕ (Int)):=
 some (.inl (wr (sum2+x6.Weight)))
noncomputable def y1v (sum2:Int):Option (Int):=
 some sum2
noncomputable def y3s (l1:(List vj)):Option (Int):=
 if l1.length≤1000000000 then forL (fun (k:Nat) (x:vj) (s:Int)=>y1u k x s) (fun (s:Int)=>y1v s) 0 l1 0 else none
noncomputable def z45 (v39:Int) (v40:(List Int)):Option ((Int×(List Int)) ⊕ (((List Int)×(List Bs)) ⊕ ((List Bs)×Int))):=
 some (.inl (v39,v40))
noncomputable def y1w (k21:Nat) (x24:vj) (v19:Int) (l20:(List Int)):Option ((Int×(List Int)) ⊕ (((List Int)×(List Bs)) ⊕ ((List Bs)×Int))):=
 (l20[k21]?).bind fun (x32:Int)=>((l20.set k21 (wr (x32+x24.Weight)))[k21]?).bind fun (x34:Int)=>(at? (l20.set k21 (wr (x32+x24.Weight))) v19).bind fun (x36:Int)=>if decide (x36 < x34) then (z45 (k21:Int) (l20.set k21 (wr (x32+x24.Weight)))) else (z45 v19 (l20.set k21 (wr (x32+x24.Weight))))
noncomputable def y1y (v1:(List vj)) (r11:(Int)) (l14:(List Bs)) (v19:Int) (l20:(List Int)):Option (((List Int)×(List Bs)) ⊕ ((List Bs)×Int)):=
 (at? l20 v19).bind fun (x25:Int)=>(at? v1 v19).bind fun (x27:vj)=>if l14.length+1≤1000000000 then (some (.inl ((l20.set v19.toNat (wr (x25 - r11))),(l14++[x27.Key])))) else none
noncomputable def y1x (v1:(List vj)) (r11:(Int)) (k15:Nat) (l13:(List Int)) (l14:(List Bs)):Option (((List Int)×(List Bs)) ⊕ ((List Bs)×Int)):=
 if v1.length≤1000000000 then forL (fun (k:Nat) (x:vj) (s:Int×(List Int))=>y1w k x s.1 s.2) (fun (s:Int×(List Int))=>y1y v1 r11 l14 s.1 s.2) 0 v1 (0,l13) else none
noncomputable def y1z (l13:(List Int)) (l14:(List Bs)):Option ((List Bs)×Int):=
 some (l14,0)
noncomputable def z92 (v1:(List vj)) (v2:Int):Option ((List Bs)×Int):=
 (y3t v1).bind fun r3=>if decide (r3≠0) then (some ([],r3)) else ((Yy v2 0 2000).bind fun r6=>if r6 then (some ([],1)) else (if decide ((v1.length:Int)=0) then (some ([],8)) else (if v1.length≤1000000000 then ((y3s v1).bind fun r11=>if v2≤1000000000 then rng (fun (k:Nat) (s:(List Int)×(List Bs))=>y1x v1 r11 k s.1 s.2) (fun (s:(List Int)×(List Bs))=>y1z s.1 s.2) v2.toNat 0 ((List.replicate v1.length 0),[]) else none) else none)))
noncomputable def xb (a1:ym):Option (Int):=
 (Yy a1.Status 100 599).bind fun r2=>if r2 then some 1 else ((z26 a1.Headers).bind fun r5=>if decide (r5≠0) then some r5 else (if decide (20000 < (a1.Body.length:Int)) then some 2 else some 0))
noncomputable def z64  : Option ((List Bs)×(List Int)):=
 some ([[109,97,120,45,97,103,101],[115,45,109,97,120,97,103,101],[115,116,97,108,101,45,119,104,105,108,101,45,114,101,118,97,108,105,100,97,116,101],[115,116,97,108,101,45,105,102,45,101,114,114,111,114],[109,97,120,45,115,116,97,108,101],[109,105,110,45,102,114,101,115,104]],([6,7,8,9,10,11]:List Int))
noncomputable def z6h (h1:zo) (name2:Bs):Option (Bool):=
 (z93 h1.Name name2).bind fun r3=>some r3
noncomputable def z2n (out14:(List Bs)):Option ((List Bs) ⊕ ((List Bs))):=
 some (.inl out14)
noncomputable def Wm (name2:Bs) (k4:Nat) (x7:zo) (l3:(List Bs)):Option ((List Bs) ⊕ ((List Bs))):=
 (z6h x7 name2).bind fun r10=>if r10 then (if l3.length+1≤1000000000 then (z2n (l3++[x7.Value])) else none) else (z2n l3)
noncomputable def z9x (l3:(List Bs)):Option ((List Bs)):=
 some l3
noncomputable def xa (l1:(List zo)) (name2:Bs):Option ((List Bs)):=
 if l1.length≤1000000000 then forL (fun (k:Nat) (x:zo) (s:(List Bs))=>Wm name2 k x s) (fun (s:(List Bs))=>z9x s) 0 l1 [] else none
noncomputable def Zo (out22:(List Bs)):Option ((List Bs) ⊕ ((List Bs) ⊕ ((List Bs)))):=
 some (.inl out22)
noncomputable def Zm (k12:Nat) (x15:Bs) (l11:(List Bs)):Option ((List Bs) ⊕ ((List Bs) ⊕ ((List Bs)))):=
 (Zq x15 [32]).bind fun r18=>if decide (r18≠[]) then (if l11.length+1≤1000000000 then (Zo (l11++[r18])) else none) else (Zo l11)
noncomputable def z2o (l11:(List Bs)):Option ((List Bs) ⊕ ((List Bs))):=
 some (.inl l11)
noncomputable def Zn (k3:Nat) (x6:Bs) (l2:(List Bs)):Option ((List Bs) ⊕ ((List Bs))):=
 (ve x6 [44]).bind fun r9=>if r9.length≤1000000000 then forL (fun (k:Nat) (x:Bs) (s:(List Bs))=>Zm k x s) (fun (s:(List Bs))=>z2o s) 0 r9 l2 else none
noncomputable def z2p (l2:(List Bs)):Option ((List Bs)):=
 some l2
noncomputable def Yw (values1:(List Bs)):Option ((List Bs)):=
 if values1.length≤1000000000 then forL (fun (k:Nat) (x:Bs) (s:(List Bs))=>Zn k x s) (fun (s:(List Bs))=>z2p s) 0 values1 [] else none
noncomputable def z4w (r2:(Int×Bool)) (v9:Bool):Option (Int×Bool):=
 some (r2.1,v9)
noncomputable def z62 (s1:Bs):Option (Int×Bool):=
 (z6l s1).bind fun r2=>if r2.2 then ((Yy r2.1 0 100000000).bind fun r6=>z4w r2 (!r6)) else (z4w r2 false)
noncomputable def y0b  : Option ((List Bs)×(List Int)):=
 some ([[110,111,45,115,116,111,114,101],[110,111,45,99,97,99,104,101],[112,114,105,118,97,116,101],[112,117,98,108,105,99],[109,117,115,116,45,114,101,118,97,108,105,100,97,116,101],[111,110,108,121,45,105,102,45,99,97,99,104,101,100]],([0,1,2,3,4,5]:List Int))
noncomputable def y2w (v2:Bs) (k3:Nat) (x6:Bs):Option (Unit ⊕ (Int)):=
 if decide (v2=x6) then (some (.inr (k3:Int))) else (some (.inl ()))
noncomputable def y2x:Option (Int):=
 some (-1)
noncomputable def Wx (s1:(List Bs)) (v2:Bs):Option (Int):=
 if s1.length≤1000000000 then forL (fun (k:Nat) (x:Bs) (s:Unit)=>y2w v2 k x) (fun (s:Unit)=>y2x) 0 s1 () else none
noncomputable def z4v (r3:(Bs×Bs×Bool)) (c41:Bool) (c42:Bool) (c43:Bool) (c44:Bool) (c45:Bool) (c46:Bool) (c47:Int) (c48:Int) (c49:Int) (c50:Int) (c51:Int) (c52:Int):Option (Bool×yp):=
 some (r3.2.2,(yp.mk c41 c42 c43 c44 c45 c46 c47 c48 c49 c50 c51 c52))
noncomputable def z4u (s1:yp) (r3:(Bs×Bs×Bool)) (r5:(Int×Bool)) (r22:((List Bs)×(List Int))) (r24:(Int)) (v34:Bool):Option (Bool×yp):=
 if v34 then ((at? r22.2 r24).bind fun (x36:Int)=>if Yd x36=true then ((some (z88 s1 x36 r5.1)).bind fun (c39:yp)=>z4v r3 c39.NoStore c39.NoCache c39.Private c39.Public c39.Must c39.Only c39.MaxAge c39.Shared c39.Stale c39.OnError c39.MaxStale c39.MinFresh) else none) else (z4v r3 s1.NoStore s1.NoCache s1.Private s1.Public s1.Must s1.Only s1.MaxAge s1.Shared s1.Stale s1.OnError s1.MaxStale s1.MinFresh)
noncomputable def z3i (s1:yp) (v2:Bs):Option (Bool×yp):=
 (km v2 [61]).bind fun r3=>(z62 r3.2.1).bind fun r5=>(Yx r3.1).bind fun r7=>if ((!r7) || (r3.2.2 && (!r5.2))) then (some (false,s1)) else ((jk r3.1).bind fun r10=>(y0b).bind fun r12=>(Wx r12.1 r10).bind fun r14=>if decide (0≤r14) then ((at? r12.2 r14).bind fun (x17:Int)=>if y1l x17=true then ((some (y2p s1 x17 true)).bind fun (c20:yp)=>some (!r3.2.2,c20)) else none) else ((z64).bind fun r22=>(Wx r22.1 r10).bind fun r24=>if decide (r24 < 0) then (some (true,s1)) else ((at? r22.2 r24).bind fun (x27:Int)=>if Yd x27=true then (if decide ((Qg s1 x27)=(-1)) then (z4u s1 r3 r5 r22 r24 true) else (if Yd x27=true then (z4u s1 r3 r5 r22 r24 (decide (r5.1 < (Qg s1 x27)))) else none)) else none)))
noncomputable def z1p (k36:Nat) (x39:Bs) (c24:Bool) (c25:Bool) (c26:Int) (c27:Int) (c28:Bool) (c29:Bool) (c30:Bool) (c31:Bool) (c32:Int) (c33:Int) (c34:Int) (c35:Int):Option ((Bool×Bool×Int×Int×Bool×Bool×Bool×Bool×Int×Int×Int×Int) ⊕ (yp×Int)):=
 (z3i (yp.mk c24 c25 c28 c29 c30 c31 c32 c33 c34 c35 c26 c27) x39).bind fun r42=>if !r42.1 then (some (.inr ((yp.mk false false false false false false 0 0 0 0 0 0),9))) else (some (.inl (r42.2.NoStore,r42.2.NoCache,r42.2.MaxStale,r42.2.MinFresh,r42.2.Private,r42.2.Public,r42.2.Must,r42.2.Only,r42.2.MaxAge,r42.2.Shared,r42.2.Stale,r42.2.OnError)))
noncomputable def y5s (c24:Bool) (c25:Bool) (c26:Int) (c27:Int) (c28:Bool) (c29:Bool) (c30:Bool) (c31:Bool) (c32:Int) (c33:Int) (c34:Int) (c35:Int):Option (yp×Int):=
 some ((yp.mk c24 c25 c28 c29 c30 c31 c32 c33 c34 c35 c26 c27),0)
noncomputable def y5r (k16:Nat) (x19:Int) (c4:Bool) (c5:Bool) (c6:Int) (c7:Int) (c8:Bool) (c9:Bool) (c10:Bool) (c11:Bool) (c12:Int) (c13:Int) (c14:Int) (c15:Int):Option ((Bool×Bool×Int×Int×Bool×Bool×Bool×Bool×Int×Int×Int×Int) ⊕ (yp×Int)):=
 if Yd x19=true then ((some (z88 (yp.mk c4 c5 c8 c9 c10 c11 c12 c13 c14 c15 c6 c7) x19 (-1))).bind fun (c48:yp)=>some (.inl (c48.NoStore,c48.NoCache,c48.MaxStale,c48.MinFresh,c48.Private,c48.Public,c48.Must,c48.Only,c48.MaxAge,c48.Shared,c48.Stale,c48.OnError))) else none
noncomputable def z78 (l1:(List zo)) (c4:Bool) (c5:Bool) (c6:Int) (c7:Int) (c8:Bool) (c9:Bool) (c10:Bool) (c11:Bool) (c12:Int) (c13:Int) (c14:Int) (c15:Int):Option (yp×Int):=
 (xa l1 [99,97,99,104,101,45,99,111,110,116,114,111,108]).bind fun r20=>(Yw r20).bind fun r22=>if r22.length≤1000000000 then forL (fun (k:Nat) (x:Bs) (s:Bool×Bool×Int×Int×Bool×Bool×Bool×Bool×Int×Int×Int×Int)=>z1p k x s.1 s.2.1 s.2.2.1 s.2.2.2.1 s.2.2.2.2.1 s.2.2.2.2.2.1 s.2.2.2.2.2.2.1 s.2.2.2.2.2.2.2.1 s.2.2.2.2.2.2.2.2.1 s.2.2.2.2.2.2.2.2.2.1 s.2.2.2.2.2.2.2.2.2.2.1 s.2.2.2.2.2.2.2.2.2.2.2) (fun (s:Bool×Bool×Int×Int×Bool×Bool×Bool×Bool×Int×Int×Int×Int)=>y5s s.1 s.2.1 s.2.2.1 s.2.2.2.1 s.2.2.2.2.1 s.2.2.2.2.2.1 s.2.2.2.2.2.2.1 s.2.2.2.2.2.2.2.1 s.2.2.2.2.2.2.2.2.1 s.2.2.2.2.2.2.2.2.2.1 s.2.2.2.2.2.2.2.2.2.2.1 s.2.2.2.2.2.2.2.2.2.2.2) 0 r22 (c4,c5,c6,c7,c8,c9,c10,c11,c12,c13,c14,c15) else none
noncomputable def z3k (l1:(List zo)):Option (yp×Int):=
 (z64).bind fun r2=>if r2.2.length≤1000000000 then forL (fun (k:Nat) (x:Int) (s:Bool×Bool×Int×Int×Bool×Bool×Bool×Bool×Int×Int×Int×Int)=>y5r k x s.1 s.2.1 s.2.2.1 s.2.2.2.1 s.2.2.2.2.1 s.2.2.2.2.2.1 s.2.2.2.2.2.2.1 s.2.2.2.2.2.2.2.1 s.2.2.2.2.2.2.2.2.1 s.2.2.2.2.2.2.2.2.2.1 s.2.2.2.2.2.2.2.2.2.2.1 s.2.2.2.2.2.2.2.2.2.2.2) (fun (s:Bool×Bool×Int×Int×Bool×Bool×Bool×Bool×Int×Int×Int×Int)=>z78 l1 s.1 s.2.1 s.2.2.1 s.2.2.2.1 s.2.2.2.2.1 s.2.2.2.2.2.1 s.2.2.2.2.2.2.1 s.2.2.2.2.2.2.2.1 s.2.2.2.2.2.2.2.2.1 s.2.2.2.2.2.2.2.2.2.1 s.2.2.2.2.2.2.2.2.2.2.1 s.2.2.2.2.2.2.2.2.2.2.2) 0 r2.2 (false,false,0,0,false,false,false,false,0,0,0,0) else none
noncomputable def z6f (s1:(List Bs)) (v2:Bs):Option (Bool):=
 (Wx s1 v2).bind fun r3=>some (decide (0≤r3))
noncomputable def z27 (l1:(List Bs)):Option ((List Bs)):=
 (ul l1).bind fun r2=>(xm r2).bind fun r4=>(Wy r4).bind fun r6=>some r6
noncomputable def z1o (k7:Nat) (l6:(List Bs)):Option ((List Bs) ⊕ ((List Bs)×Bool×Int)):=
 (l6[k7]?).bind fun (x17:Bs)=>(Yx x17).bind fun r19=>if !r19 then (some (.inr ([],false,9))) else ((jk x17).bind fun r22=>some (.inl (l6.set k7 r22)))
noncomputable def Qj (l6:(List Bs)):Option ((List Bs)×Bool×Int):=
 (z6f l6 [42]).bind fun r10=>if r10 then (some ([],true,0)) else ((z27 l6).bind fun r13=>if decide (10 < (r13.length:Int)) then (some ([],false,2)) else (some (r13,false,0)))
noncomputable def xc (a1:ym):Option ((List Bs)×Bool×Int):=
 (xa a1.Headers [118,97,114,121]).bind fun r2=>(Yw r2).bind fun r4=>if r4.length≤1000000000 then rng (fun (k:Nat) (s:(List Bs))=>z1o k s) (fun (s:(List Bs))=>Qj s) r4.length 0 r4 else none
noncomputable def z66 (c1:yp):Option (Int):=
 if c1.NoCache then some 0 else (if decide (c1.Shared≠(-1)) then (some (wr (c1.Shared * 1000))) else (if decide (c1.MaxAge≠(-1)) then (some (wr (c1.MaxAge * 1000))) else some 0))
noncomputable def z68 (a1:ym):Option (Int×Int):=
 (xb a1).bind fun r2=>if decide (r2≠0) then (some (0,r2)) else ((z3k a1.Headers).bind fun r5=>if decide (r5.2≠0) then (some (0,r5.2)) else ((xc a1).bind fun r8=>if decide (r8.2.2≠0) then (some (0,r8.2.2)) else ((z66 r5.1).bind fun r11=>some (r11,0))))
noncomputable def y2e (x6:Int) (k11:Nat) (l10:(List Int)):Option ((List Int) ⊕ ((Bs×(List Int)) ⊕ (Bs))):=
 if (0:Int)≤(wr (18 - (wr (6 * (k11:Int))))) then ((at? [65,66,67,68,69,70,71,72,73,74,75,76,77,78,79,80,81,82,83,84,85,86,87,88,89,90,97,98,99,100,101,102,103,104,105,106,107,108,109,110,111,112,113,114,115,116,117,118,119,120,121,122,48,49,50,51,52,53,54,55,56,57,45,95] (and_ .i64 (shr_ .i64 x6 (wr (18 - (wr (6 * (k11:Int)))))) 63)).bind fun (x18:UInt8)=>if l10.length+1≤1000000000 then (some (.inl (l10++[(x18.toNat:Int)]))) else none) else none
noncomputable def y2h (s2:Bs) (l10:(List Int)):Option ((Bs×(List Int)) ⊕ (Bs)):=
 (sub? s2 (min 3 (s2.length:Int)) (s2.length:Int)).bind fun (l14:Bs)=>some (.inl (l14,l10))
noncomputable def z5h (x25:Int):Option (Int ⊕ ((Bs×(List Int)) ⊕ (Bs))):=
 some (.inl x25)
noncomputable def y2f (s2:Bs) (k7:Nat) (x6:Int):Option (Int ⊕ ((Bs×(List Int)) ⊕ (Bs))):=
 if decide ((k7:Int) < (min 3 (s2.length:Int))) then ((s2[k7]?).bind fun (x23:UInt8)=>z5h (or_ .i64 (shl_ .i64 x6 8) (IntKind.wrap .i64 (x23.toNat:Int)))) else (z5h (shl_ .i64 x6 8))
noncomputable def y2i (s2:Bs) (l3:(List Int)) (x6:Int):Option ((Bs×(List Int)) ⊕ (Bs)):=
 if (wr ((min 3 (s2.length:Int))+1))≤1000000000 then rng (fun (k:Nat) (s:(List Int))=>y2e x6 k s) (fun (s:(List Int))=>y2h s2 s) ((wr ((min 3 (s2.length:Int))+1)).toNat) 0 l3 else none
noncomputable def z8y (out26:(List Int)):Option (Bs):=
 some (strN out26)
noncomputable def y2g (s2:Bs) (l3:(List Int)):Option ((Bs×(List Int)) ⊕ (Bs)):=
 if decide (0 < (s2.length:Int)) then (if 3≤1000000000 then rng (fun (k:Nat) (s:Int)=>y2f s2 k s) (fun (s:Int)=>y2i s2 l3 s) 3 0 0 else none) else (Option.map .inr (z8y l3))
noncomputable def z6b (s1:Bs):Option (Bs):=
 iter (fun (s:Bs×(List Int))=>y2g s.1 s.2) (s1,[])
noncomputable def xe (v27:Bool):Option (Bool):=
 some v27
noncomputable def z0e  : Option (Bool):=
 (Zt [47,97,47,46,46,47,98]).bind fun r1=>(z92 ([(vj.mk [97] 1)]) 2).bind fun r3=>(z68 (ym.mk 200 ([(zo.mk [99,97,99,104,101,45,99,111,110,116,114,111,108] [109,97,120,45,97,103,101,61,50])]) [])).bind fun r5=>if decide (r1.2=0) then (if decide (r1.1=[47,98]) then (if decide (r3.2=0) then (if decide ((r3.1.length:Int)=2) then (if decide (r5.2=0) then (if decide (r5.1=2000) then ((z6b [97,98]).bind fun r19=>xe (decide (r19=[89,87,73]))) else (xe false)) else (xe false)) else (xe false)) else (xe false)) else (xe false)) else (xe false)
noncomputable def z0i (s1:zn) (l2:(List Int)):Option (Int×zn):=
 (ko s1 (l2.length:Int)).bind fun r3=>(at? l2 r3.1).bind fun (x5:Int)=>some (x5,r3.2)
noncomputable def z4n (t19:Bs) (c20:(List Int)) (c21:Int):Option (Bs×zn):=
 some (t19,(zn.mk c20 c21))
noncomputable def z08 (t11:Bs) (c12:(List Int)) (c13:Int):Option (Bs×zn):=
 (vg (zn.mk c12 c13) 20).bind fun r14=>if r14.1 then ((wt r14.2 ([[109,97,120,45,97,103,101],[110,111,45,99,97,99,104,101,61,49],[109,97,120,45,97,103,101,61,45,49],[109,97,120,45,97,103,101,61,48,49],[109,97,120,45,97,103,101,61,49,48,48,48,48,48,48,48,49],[61,49],[97,32,98],[109,97,120,45,97,103,101,61,54,48,32,44,32,44,32,110,111,45,99,97,99,104,101]])).bind fun r17=>z4n r17.1 r17.2.L r17.2.at_) else (z4n t11 r14.2.L r14.2.at_)
noncomputable def z6y (s1:zn):Option (Bs×zn):=
 (Zv s1 0 3).bind fun r2=>(ke r2.2 r2.1 [44,32] ([[109,97,120,45,97,103,101,61,54,48],[109,97,120,45,97,103,101,61,54,48],[109,97,120,45,97,103,101,61,48],[109,97,120,45,97,103,101,61,49,48],[115,45,109,97,120,97,103,101,61,51,48],[110,111,45,99,97,99,104,101],[112,117,98,108,105,99],[109,117,115,116,45,114,101,118,97,108,105,100,97,116,101],[115,116,97,108,101,45,119,104,105,108,101,45,114,101,118,97,108,105,100,97,116,101,61,50,48],[115,116,97,108,101,45,105,102,45,101,114,114,111,114,61,49,48,48],[120,61,49],[121],[77,97,120,45,65,103,101,61,57,48]])).bind fun r4=>(vg r4.2 10).bind fun r6=>if r6.1 then ((ke r6.2 2 [44] ([[110,111,45,115,116,111,114,101],[112,114,105,118,97,116,101],[109,97,120,45,97,103,101,61,54,48],[111,110,108,121,45,105,102,45,99,97,99,104,101,100],[105,109,109,117,116,97,98,108,101]])).bind fun r9=>z08 r9.1 r9.2.L r9.2.at_) else (z08 r4.1 r6.2.L r6.2.at_)
noncomputable def xp (name1:Bs) (value2:Bs) (c3:ym):Option (ym):=
 if c3.Headers.length+1≤1000000000 then (some (ym.mk c3.Status (c3.Headers++[(zo.mk name1 value2)]) c3.Body)) else none
noncomputable def z0j (s1:zn) (low2:Int) (high3:Int):Option (Int×zn):=
 (vg s1 12).bind fun r4=>if r4.1 then ((z0i r4.2 [wr (low2 - 1),wr (high3+1),low2,high3,(-1099511627776),1099511627776]).bind fun r7=>some (r7.1,r7.2)) else ((Zv r4.2 low2 high3).bind fun r9=>some (r9.1,r9.2))
noncomputable def z09 (l85:(List zo)) (c87:Bs) (c93:(List Int)) (c94:Int) (c95:Int):Option (ym×zn):=
 some ((ym.mk c95 l85 c87),(zn.mk c93 c94))
noncomputable def z1a (c83:(List Int)) (c84:Int) (l85:(List zo)) (c86:Int) (c87:Bs):Option (ym×zn):=
 (vg (zn.mk c83 c84) 40).bind fun r88=>if r88.1 then ((z0j r88.2 100 599).bind fun r91=>z09 l85 c87 r91.2.L r91.2.at_ r91.1) else (z09 l85 c87 r88.2.L r88.2.at_ c86)
noncomputable def z1b (c67:(List Int)) (c68:Int) (l69:(List zo)) (c70:Int) (c71:Bs):Option (ym×zn):=
 (vg (zn.mk c67 c68) 30).bind fun r72=>if r72.1 then ((wt r72.2 ([[118,97,114,121],[99,97,99,104,101,45,116,97,103]])).bind fun r75=>(ke r75.2 12 [44] ([[104,49],[104,50],[104,51],[104,52],[104,53],[104,54],[104,55],[104,56],[104,57],[104,97],[104,98],[104,99]])).bind fun r77=>(wt r77.2 ([[97,32,98],[65],[],r77.1])).bind fun r79=>(xp r75.1 r79.1 (ym.mk c70 l69 c71)).bind fun r81=>z1a r79.2.L r79.2.at_ r81.Headers r81.Status r81.Body) else (z1a r72.2.L r72.2.at_ l69 c70 c71)
noncomputable def z1c (c55:(List Int)) (c56:Int) (l57:(List zo)) (c58:Int) (c59:Bs):Option (ym×zn):=
 (vg (zn.mk c55 c56) 6).bind fun r60=>if r60.1 then ((wt r60.2 ([[53],[53,48],[120],[45,49],[49,48,48,48,48,48,48,48,49]])).bind fun r63=>(xp [97,103,101] r63.1 (ym.mk c58 l57 c59)).bind fun r65=>z1b r63.2.L r63.2.at_ r65.Headers r65.Status r65.Body) else (z1b r60.2.L r60.2.at_ l57 c58 c59)
noncomputable def z1d (c43:(List Int)) (c44:Int) (l45:(List zo)) (c46:Int) (c47:Bs):Option (ym×zn):=
 (vg (zn.mk c43 c44) 4).bind fun r48=>if r48.1 then ((wt r48.2 ([[114,101,100],[114,101,100,44,32,98,108,117,101],[98,108,117,101,32,103,114,101,101,110],[114,101,100,32,114,101,100]])).bind fun r51=>(xp [99,97,99,104,101,45,116,97,103] r51.1 (ym.mk c46 l45 c47)).bind fun r53=>z1c r51.2.L r51.2.at_ r53.Headers r53.Status r53.Body) else (z1c r48.2.L r48.2.at_ l45 c46 c47)
noncomputable def z1e (c29:(List Int)) (c30:Int) (l31:(List zo)) (c32:Int) (c33:Bs):Option (ym×zn):=
 (vg (zn.mk c29 c30) 2).bind fun r34=>if r34.1 then ((wt r34.2 ([[101,116,97,103],[69,84,97,103]])).bind fun r37=>(wt r37.2 ([[34,118,49,34],[87,47,34,118,50,34],[118,51]])).bind fun r39=>(xp r37.1 r39.1 (ym.mk c32 l31 c33)).bind fun r41=>z1d r39.2.L r39.2.at_ r41.Headers r41.Status r41.Body) else (z1d r34.2.L r34.2.at_ l31 c32 c33)
noncomputable def z1f (c17:(List Int)) (c18:Int) (l19:(List zo)) (c20:Int) (c21:Bs):Option (ym×zn):=
 (vg (zn.mk c17 c18) 3).bind fun r22=>if r22.1 then ((wt r22.2 ([[97,99,99,101,112,116,45,108,97,110,103,117,97,103,101],[65,99,99,101,112,116,45,76,97,110,103,117,97,103,101,44,32,120,45,111,110,101],[42],[],[120,45,111,110,101,44,88,45,79,110,101]])).bind fun r25=>(xp [118,97,114,121] r25.1 (ym.mk c20 l19 c21)).bind fun r27=>z1e r25.2.L r25.2.at_ r27.Headers r27.Status r27.Body) else (z1e r22.2.L r22.2.at_ l19 c20 c21)
noncomputable def z60 (s1:zn):Option (ym×zn):=
 (z0i s1 [200,200,200,200,404,304,500,204,201]).bind fun r2=>(Ys [122] 50).bind fun r4=>(wt r2.2 ([[104,101,108,108,111],[120],[],r4])).bind fun r6=>(vg r6.2 6).bind fun r8=>if !r8.1 then ((wt r8.2 ([[99,97,99,104,101,45,99,111,110,116,114,111,108],[67,97,99,104,101,45,67,111,110,116,114,111,108]])).bind fun r11=>(z6y r11.2).bind fun r13=>(xp r11.1 r13.1 (ym.mk r2.1 ([]:List zo) r6.1)).bind fun r15=>z1f r13.2.L r13.2.at_ r15.Headers r15.Status r15.Body) else (z1f r8.2.L r8.2.at_ ([]:List zo) r2.1 r6.1)
noncomputable def z6w (s1:zn):Option (Bs×zn):=
 (Ys [97] 64).bind fun r2=>(wt s1 ([[97,46,98],[97,46,98],[65,46,66],[115,104,111,112,46,101,120,97,109,112,108,101],[97,46,98,58,56,48],[97,46,98,58,52,52,51],[97,46,98,58,56,48,56,48],[120,45,49,46,121],[49,46,50,46,51,46,52],[],[97,46,46,98],[45,97,46,98],[97,46,98,58,48],[97,46,98,58,48,56],[97,46,98,58,54,53,53,51,54],[97,95,98],[97,46,98,58],[97,32,98],r2])).bind fun r4=>some (r4.1,r4.2)
noncomputable def Yc (r2:(zu×zn)) (r4:(ym×zn)) (c30:(List Int)) (c31:Int) (c32:Bs) (c33:Int) (c34:(List Bs)) (c35:Int):Option (qo×zn):=
 some ((qo.mk (zu.mk r2.1.At r2.1.Method c32 r2.1.Path r2.1.Query r2.1.From r2.1.Headers r2.1.Body) r4.1 c33 c34 c35),(zn.mk c30 c31))
noncomputable def z6x (s1:zn):Option (qo×zn):=
 (z3h s1 0).bind fun r2=>(z60 r2.2).bind fun r4=>(z0i r4.2 [0,1000,20000]).bind fun r6=>(ko r6.2 3).bind fun r8=>(at? ([[],[[114,101,100]],[[98,108,117,101],[114,101,100]]]) r8.1).bind fun (x10:(List Bs))=>(vg r8.2 20).bind fun r12=>if r12.1 then ((ko r12.2 4).bind fun r15=>if decide (r15.1=0) then ((z0j r15.2 0 100).bind fun r18=>Yc r2 r4 r18.2.L r18.2.at_ r2.1.Host r18.1 x10 r6.1) else (if decide (r15.1=1) then ((z0j r15.2 0 100).bind fun r21=>Yc r2 r4 r21.2.L r21.2.at_ r2.1.Host r6.1 x10 r21.1) else (if decide (r15.1=2) then ((ko r15.2 3).bind fun r24=>(at? ([[[114,101,100],[98,108,117,101]],[[]],[[65]]]) r24.1).bind fun (x26:(List Bs))=>Yc r2 r4 r24.2.L r24.2.at_ r2.1.Host r6.1 x26 r6.1) else ((z6w r15.2).bind fun r28=>Yc r2 r4 r28.2.L r28.2.at_ r28.1 r6.1 x10 r6.1)))) else (Yc r2 r4 r12.2.L r12.2.at_ r2.1.Host r6.1 x10 r6.1)
noncomputable def kn (n1:Int) (low2:Int) (high3:Int):Option (Bool):=
 some ((decide (low2≤n1)) && (decide (n1≤high3)))
noncomputable def z3f (v1:Int):Option (Bool):=
 (kn v1 0 345686399999).bind fun r2=>some r2
noncomputable def y02 (some2:Bs) (k3:Nat) (x6:UInt8):Option (Unit ⊕ (Bool)):=
 (Wv some2 (x6.toNat:Int)).bind fun r9=>if decide (r9 < 0) then (some (.inr false)) else (some (.inl ()))
noncomputable def y47:Option (Bool):=
 some true
noncomputable def uo (s1:Bs) (some2:Bs):Option (Bool):=
 if s1.length≤1000000000 then forL (fun (k:Nat) (x:UInt8) (s:Unit)=>y02 some2 k x) (fun (s:Unit)=>y47) 0 s1 () else none
noncomputable def z39 (v9:Bool):Option (Bool):=
 some v9
noncomputable def z0f (s1:Bs):Option (Bool):=
 (kn (s1.length:Int) 1 100).bind fun r2=>if r2 then ((uo s1 [97,98,99,100,101,102,103,104,105,106,107,108,109,110,111,112,113,114,115,116,117,118,119,120,121,122,65,66,67,68,69,70,71,72,73,74,75,76,77,78,79,80,81,82,83,84,85,86,87,88,89,90,48,49,50,51,52,53,54,55,56,57,33,35,36,37,38,39,42,43,45,46,94,95,96,124,126]).bind fun r6=>z39 r6) else (z39 false)
noncomputable def z7z (r15:(Int×Int)) (v22:Bool):Option (Int×Bool):=
 some (r15.1,v22)
noncomputable def z4c (s1:Bs) (v13:Bool):Option (Int×Bool):=
 if v13 then (some (0,false)) else ((Zr s1).bind fun r15=>if decide (r15.2=0) then ((y9t r15.1).bind fun r19=>z7z r15 (decide (r19=s1))) else (z7z r15 false))
noncomputable def z99 (s1:Bs) (most2:Int):Option (Int×Bool):=
 (z6c s1 [45]).bind fun r3=>if decide (r3=[]) then (z4c s1 true) else (if decide (most2 < (r3.length:Int)) then (z4c s1 true) else ((uo r3 [48,49,50,51,52,53,54,55,56,57]).bind fun r9=>z4c s1 (!r9)))
noncomputable def z73 (v30:Bs):Option (Bs×Int):=
 some (v30,0)
noncomputable def Ya (v45:Bool):Option (Unit ⊕ (Bs×Int)):=
 if v45 then (some (.inr ([],3))) else (some (.inl ()))
noncomputable def z4d (k21:Nat) (x24:Bs):Option (Unit ⊕ (Bs×Int)):=
 (kn (x24.length:Int) 1 63).bind fun r33=>if !r33 then (Ya true) else ((uo x24 [97,98,99,100,101,102,103,104,105,106,107,108,109,110,111,112,113,114,115,116,117,118,119,120,121,122,65,66,67,68,69,70,71,72,73,74,75,76,77,78,79,80,81,82,83,84,85,86,87,88,89,90,48,49,50,51,52,53,54,55,56,57,45]).bind fun r37=>if !r37 then (Ya true) else ((Zq x24 [45]).bind fun r41=>Ya (decide (r41≠x24))))
noncomputable def z4e (r2:(Bs×Bs×Bool)) (r4:(Int×Bool)):Option (Bs×Int):=
 (jk r2.1).bind fun r25=>if ((r2.2.2 && (decide (r4.1≠80))) && (decide (r4.1≠443))) then (if [58].length+r2.2.1.length≤1000000000 then (if r25.length+([58]++r2.2.1).length≤1000000000 then (z73 (r25++([58]++r2.2.1))) else none) else none) else (z73 r25)
noncomputable def Yb (r2:(Bs×Bs×Bool)) (r4:(Int×Bool)) (v17:Bool):Option (Bs×Int):=
 if v17 then (some ([],3)) else ((ve r2.1 [46]).bind fun r19=>if r19.length≤1000000000 then forL (fun (k:Nat) (x:Bs) (s:Unit)=>z4d k x) (fun (s:Unit)=>z4e r2 r4) 0 r19 () else none)
noncomputable def Qa (v1:Bs):Option (Bs×Int):=
 (km v1 [58]).bind fun r2=>(z99 r2.2.1 5).bind fun r4=>if decide (255 < (v1.length:Int)) then (Yb r2 r4 true) else (if r2.2.2 then (if !r4.2 then (Yb r2 r4 true) else ((kn r4.1 1 65535).bind fun r12=>Yb r2 r4 (!r12))) else (Yb r2 r4 false))
noncomputable def z34 (v12:Bool):Option (Unit ⊕ (Bool)):=
 if v12 then (some (.inr false)) else (some (.inl ()))
noncomputable def y0y (low2:Int) (k3:Nat) (x6:UInt8):Option (Unit ⊕ (Bool)):=
 if decide ((x6.toNat:Int) < low2) then (z34 true) else (z34 (decide (126 < (x6.toNat:Int))))
noncomputable def y46:Option (Bool):=
 some true
noncomputable def Zu (s1:Bs) (low2:Int):Option (Bool):=
 if s1.length≤1000000000 then forL (fun (k:Nat) (x:UInt8) (s:Unit)=>y0y low2 k x) (fun (s:Unit)=>y46) 0 s1 () else none
noncomputable def Qh (v19:Bool):Option (Bool):=
 some v19
noncomputable def z3c (s1:Bs):Option (Bool):=
 (kn (s1.length:Int) 1 1000).bind fun r2=>if r2 then ((s1[0]?).bind fun (x6:UInt8)=>if decide ((x6.toNat:Int)=47) then ((Zu s1 33).bind fun r10=>if r10 then ((z2u s1 [63,35]).bind fun r14=>Qh (!r14)) else (Qh false)) else (Qh false)) else (Qh false)
noncomputable def xf (v12:Bool):Option (Bool):=
 some v12
noncomputable def un (s1:Bs):Option (Bool):=
 if decide ((s1.length:Int)≤1000) then ((Zu s1 33).bind fun r4=>if r4 then ((Yt s1 [35]).bind fun r8=>xf (!r8)) else (xf false)) else (xf false)
noncomputable def z4f (v12:Bool):Option (Bool):=
 some v12
noncomputable def z6s (s1:Bs):Option (Bool):=
 if decide ((s1.length:Int)≤2000) then ((Zu s1 32).bind fun r4=>if r4 then ((Zq s1 [32]).bind fun r8=>z4f (decide (r8=s1))) else (z4f false)) else (z4f false)
noncomputable def y09 (k3:Nat) (x6:zo):Option (Unit ⊕ (Int)):=
 (z0f x6.Name).bind fun r9=>if !r9 then (some (.inr 5)) else ((z6s x6.Value).bind fun r12=>if !r12 then (some (.inr 3)) else (some (.inl ())))
noncomputable def y1a:Option (Int):=
 some 0
noncomputable def z3g (l1:(List zo)):Option (Int):=
 if decide (50 < (l1.length:Int)) then some 2 else (if l1.length≤1000000000 then forL (fun (k:Nat) (x:zo) (s:Unit)=>y09 k x) (fun (s:Unit)=>y1a) 0 l1 () else none)
noncomputable def z04 (r1:zu) (v23:Bool):Option (Int):=
 if v23 then some 3 else ((z3g r1.Headers).bind fun r25=>if decide (r25≠0) then some r25 else (if decide (20000 < (r1.Body.length:Int)) then some 2 else some 0))
noncomputable def z0g (r1:zu):Option (Int):=
 (z3f r1.At).bind fun r2=>if !r2 then some 1 else ((z0f r1.Method).bind fun r5=>if !r5 then some 5 else ((Qa r1.Host).bind fun r8=>if decide (r8.2≠0) then some r8.2 else ((z3c r1.Path).bind fun r11=>if !r11 then (z04 r1 true) else ((un r1.Query).bind fun r15=>if !r15 then (z04 r1 true) else ((z6s r1.From).bind fun r19=>z04 r1 (!r19))))))
noncomputable def z3e (a1:ym):Option (Int):=
 (kn a1.Status 100 599).bind fun r2=>if !r2 then some 1 else ((z3g a1.Headers).bind fun r5=>if decide (r5≠0) then some r5 else (if decide (20000 < (a1.Body.length:Int)) then some 2 else some 0))
noncomputable def z6o (a1:Bs) (b2:Bs):Option (Bool):=
 (jk a1).bind fun r3=>(jk b2).bind fun r5=>some (decide (r3=r5))
noncomputable def z38 (out14:(List Bs)):Option ((List Bs) ⊕ ((List Bs))):=
 some (.inl out14)
noncomputable def z03 (name2:Bs) (k4:Nat) (x7:zo) (l3:(List Bs)):Option ((List Bs) ⊕ ((List Bs))):=
 (z6o x7.Name name2).bind fun r10=>if r10 then (if l3.length+1≤1000000000 then (z38 (l3++[x7.Value])) else none) else (z38 l3)
noncomputable def y04 (l3:(List Bs)):Option ((List Bs)):=
 some l3
noncomputable def Yz (l1:(List zo)) (name2:Bs):Option ((List Bs)):=
 if l1.length≤1000000000 then forL (fun (k:Nat) (x:zo) (s:(List Bs))=>z03 name2 k x s) (fun (s:(List Bs))=>y04 s) 0 l1 [] else none
noncomputable def z35 (out17:(List Bs)):Option ((List Bs) ⊕ ((List Bs))):=
 some (.inl out17)
noncomputable def z01 (k7:Nat) (x10:Bs) (l6:(List Bs)):Option ((List Bs) ⊕ ((List Bs))):=
 (Zq x10 [32]).bind fun r13=>if decide (r13≠[]) then (if l6.length+1≤1000000000 then (z35 (l6++[r13])) else none) else (z35 l6)
noncomputable def y01 (l6:(List Bs)):Option ((List Bs)):=
 some l6
noncomputable def z6m (values1:(List Bs)):Option ((List Bs)):=
 (vu values1 [44]).bind fun r2=>(ve r2 [44]).bind fun r4=>if r4.length≤1000000000 then forL (fun (k:Nat) (x:Bs) (s:(List Bs))=>z01 k x s) (fun (s:(List Bs))=>y01 s) 0 r4 [] else none
noncomputable def z02 (k8:Nat) (x11:Bs) (all6:Bool) (l7:(List Bs)):Option ((Bool×(List Bs)) ⊕ ((List Bs)×Bool×Int)):=
 (z0f x11).bind fun r20=>if !r20 then (some (.inr ([],false,9))) else ((jk x11).bind fun r23=>if l7.length+1≤1000000000 then (some (.inl ((all6 || (decide (x11=[42]))),(l7++[r23])))) else none)
noncomputable def z36 (all6:Bool) (l7:(List Bs)):Option ((List Bs)×Bool×Int):=
 if all6 then (some ([],true,0)) else ((xm l7).bind fun r13=>(Wy r13).bind fun r15=>if decide (10 < (r15.length:Int)) then (some ([],false,2)) else (some (r15,false,0)))
noncomputable def z6p (a1:ym):Option ((List Bs)×Bool×Int):=
 (Yz a1.Headers [118,97,114,121]).bind fun r2=>(z6m r2).bind fun r4=>if r4.length≤1000000000 then forL (fun (k:Nat) (x:Bs) (s:Bool×(List Bs))=>z02 k x s.1 s.2) (fun (s:Bool×(List Bs))=>z36 s.1 s.2) 0 r4 (false,[]) else none
noncomputable def z05 (v16:Bool):Option (Bool):=
 some v16
noncomputable def z6r (s1:Bs):Option (Bool):=
 (kn (s1.length:Int) 1 40).bind fun r2=>if r2 then ((sub? s1 0 1).bind fun (l6:Bs)=>(uo l6 [97,98,99,100,101,102,103,104,105,106,107,108,109,110,111,112,113,114,115,116,117,118,119,120,121,122]).bind fun r8=>if r8 then ((uo s1 [97,98,99,100,101,102,103,104,105,106,107,108,109,110,111,112,113,114,115,116,117,118,119,120,121,122,48,49,50,51,52,53,54,55,56,57,45,95]).bind fun r12=>z05 r12) else (z05 false)) else (z05 false)
noncomputable def z4h (v36:Bool):Option (Unit ⊕ (Int)):=
 if v36 then (some (.inr 7)) else (some (.inl ()))
noncomputable def z4g (v1:qo) (k20:Nat) (x23:Bs):Option (Unit ⊕ (Int)):=
 (z6r x23).bind fun r28=>if !r28 then (some (.inr 5)) else (if decide (0 < (k20:Int)) then ((at? v1.Tags ((k20:Int) - 1)).bind fun (x33:Bs)=>z4h (Op.bytesLess x23 x33 || x23 == x33)) else (z4h false))
noncomputable def z4i (v1:qo):Option (Int):=
 (z6p v1.Response).bind fun r24=>some r24.2.2
noncomputable def Qi (v1:qo) (v17:Bool):Option (Int):=
 if v17 then some 1 else (if decide (20 < (v1.Tags.length:Int)) then some 2 else (if v1.Tags.length≤1000000000 then forL (fun (k:Nat) (x:Bs) (s:Unit)=>z4g v1 k x) (fun (s:Unit)=>z4i v1) 0 v1.Tags () else none))
noncomputable def z74 (k6:Nat) (x9:Int):Option (Unit ⊕ (Int)):=
 if decide (x9≠0) then (some (.inr x9)) else (some (.inl ()))
noncomputable def z4j (v1:qo):Option (Int):=
 (z3f v1.At).bind fun r10=>if !r10 then (Qi v1 true) else ((z3f v1.Used).bind fun r14=>Qi v1 (!r14))
noncomputable def z6t (v1:qo):Option (Int):=
 (z0g v1.Request).bind fun r2=>(z3e v1.Response).bind fun r4=>if [r2,r4].length≤1000000000 then forL (fun (k:Nat) (x:Int) (s:Unit)=>z74 k x) (fun (s:Unit)=>z4j v1) 0 [r2,r4] () else none
noncomputable def y1b (k4:Nat) (c2:(List Int)) (c3:Int):Option (((List Int)×Int) ⊕ (qo×zn)):=
 (z6x (zn.mk c2 c3)).bind fun r8=>(z6t r8.1).bind fun r10=>if decide (r10=0) then (some (.inr (r8.1,r8.2))) else (some (.inl (r8.2.L,r8.2.at_)))
noncomputable def y1c (c2:(List Int)) (c3:Int):Option (qo×zn):=
 some ((qo.mk (zu.mk 0 [71,69,84] [97,46,98] [47,120] [] [] [] []) (ym.mk 200 [] []) 0 [] 0),(zn.mk c2 c3))
noncomputable def z6u (s1:zn):Option (qo×zn):=
 if 6≤1000000000 then rng (fun (k:Nat) (s:(List Int)×Int)=>y1b k s.1 s.2) (fun (s:(List Int)×Int)=>y1c s.1 s.2) 6 0 (s1.L,s1.at_) else none
noncomputable def z3o (v16:Bool):Option (Unit ⊕ (Int)):=
 if v16 then (some (.inr 7)) else (some (.inl ()))
noncomputable def z3n (l1:(List Bs)) (k2:Nat) (x5:Bs):Option (Unit ⊕ (Int)):=
 (z29 x5).bind fun r8=>if !r8 then (some (.inr 5)) else (if decide (0 < (k2:Int)) then ((at? l1 ((k2:Int) - 1)).bind fun (x13:Bs)=>z3o (Op.bytesLess x5 x13 || x5 == x13)) else (z3o false))
noncomputable def y0f:Option (Int):=
 some 0
noncomputable def z94 (l1:(List Bs)):Option (Int):=
 if l1.length≤1000000000 then forL (fun (k:Nat) (x:Bs) (s:Unit)=>z3n l1 k x) (fun (s:Unit)=>y0f) 0 l1 () else none
noncomputable def z1q (e1:qo) (v15:Bool):Option (Int):=
 if v15 then some 1 else (if decide (20 < (e1.Tags.length:Int)) then some 2 else ((z94 e1.Tags).bind fun r18=>if decide (r18≠0) then some r18 else ((xc e1.Response).bind fun r21=>some r21.2.2)))
noncomputable def z0m (e1:qo):Option (Int):=
 (vo e1.Request).bind fun r2=>if decide (r2≠0) then some r2 else ((xb e1.Response).bind fun r5=>if decide (r5≠0) then some r5 else ((z0c e1.At).bind fun r8=>if !r8 then (z1q e1 true) else ((z0c e1.Used).bind fun r12=>z1q e1 (!r12))))
noncomputable def z63 (e1:qo) (r2:zu):Option (Int):=
 (z0m e1).bind fun r3=>if decide (r3≠0) then some r3 else ((vo r2).bind fun r6=>some r6)
noncomputable def z4x (r3:(zu×Int)) (e8:Int) (c9:Int) (c10:Bs) (c11:Bs) (c12:Bs) (c13:Bs) (c14:Bs) (c15:(List zo)) (c16:Bs):Option (zu×zu×Int):=
 some (r3.1,(zu.mk c9 c10 c11 c12 c13 c14 c15 c16),e8)
noncomputable def z65 (a1:zu) (b2:zu):Option (zu×zu×Int):=
 (kb a1).bind fun r3=>if decide (r3.2=0) then ((kb b2).bind fun r6=>z4x r3 r6.2 r6.1.At r6.1.Method r6.1.Host r6.1.Path r6.1.Query r6.1.From r6.1.Headers r6.1.Body) else (z4x r3 r3.2 0 [] [] [] [] [] ([]:(List zo)) [])
noncomputable def y2y (p1:Bs→Option (Bool)) (k2:Nat) (x5:Bs):Option (Unit ⊕ (Int)):=
 (p1 x5).bind fun r8=>if r8 then (some (.inr (k2:Int))) else (some (.inl ()))
noncomputable def y2z:Option (Int):=
 some (-1)
noncomputable def y3x (s1:(List Bs)) (p1:Bs→Option (Bool)):Option (Int):=
 if s1.length≤1000000000 then forL (fun (k:Nat) (x:Bs) (s:Unit)=>y2y p1 k x) (fun (s:Unit)=>y2z) 0 s1 () else none
noncomputable def z2z (s1:(List Bs)) (p1:Bs→Option (Bool)):Option (Bool):=
 (y3x s1 p1).bind fun r2=>some (decide (0≤r2))
noncomputable def z9g (s2:(List Bs)) (k4:Nat) (x7:Bs):Option (Unit ⊕ (Bool)):=
 (s2[k4]?).bind fun (x10:Bs)=>if decide (x7≠x10) then (some (.inr false)) else (some (.inl ()))
noncomputable def y22:Option (Bool):=
 some true
noncomputable def z2x (s1:(List Bs)) (s2:(List Bs)):Option (Bool):=
 if decide ((s1.length:Int)≠(s2.length:Int)) then some false else (if s1.length≤1000000000 then forL (fun (k:Nat) (x:Bs) (s:Unit)=>z9g s2 k x) (fun (s:Unit)=>y22) 0 s1 () else none)
noncomputable def z0l (n1:Bs) (c2:zu) (c3:zu):Option (Bool):=
 (xa c2.Headers n1).bind fun r4=>(xa c3.Headers n1).bind fun r6=>(z2x r4 r6).bind fun r8=>some (!r8)
noncomputable def z3j (own1:zu) (a2:ym) (r3:zu):Option (Bool):=
 if ((((decide (own1.Host≠r3.Host)) || (decide (own1.Path≠r3.Path))) || (decide (own1.Query≠r3.Query))) || ((decide (own1.Method≠r3.Method)) && (!((decide (own1.Method=[71,69,84])) && (decide (r3.Method=[72,69,65,68])))))) then some false else ((xc a2).bind fun r5=>if (r5.2.1 || (decide (r5.2.2≠0))) then some false else ((z2z r5.1 (fun (a0:Bs)=>z0l a0 own1 r3)).bind fun r8=>some (!r8)))
noncomputable def z3l (e1:qo) (r2:zu):Option (Bool×Int):=
 (z63 e1 r2).bind fun r3=>if decide (r3≠0) then (some (false,r3)) else ((z65 e1.Request r2).bind fun r6=>if decide (r6.2.2≠0) then (some (false,r6.2.2)) else ((z3j r6.1 e1.Response r6.2.1).bind fun r9=>some (r9,0)))
noncomputable def z67 (a1:ym):Option ((List Bs)×Bool×Int):=
 (xb a1).bind fun r2=>if decide (r2≠0) then (some ([],false,r2)) else ((xc a1).bind fun r5=>some (r5.1,r5.2.1,r5.2.2))
noncomputable def Zz (v39:Bool):Option (Bool):=
 some v39
noncomputable def z95 (v1:(List Int)):Option (Bool):=
 (z3h (zn.mk v1 0) 0).bind fun r2=>(kb r2.1).bind fun r4=>if decide (r4.2≠0) then ((z0e ).bind fun r7=>some r7) else ((z6u r2.2).bind fun r9=>(z0m (qo.mk (zu.mk 0 r2.1.Method r2.1.Host r2.1.Path r2.1.Query r2.1.From r2.1.Headers r2.1.Body) r9.1.Response r9.1.At r9.1.Tags r9.1.Used)).bind fun r11=>if decide (r11≠0) then ((z0e ).bind fun r14=>some r14) else ((z3l (qo.mk (zu.mk 0 r2.1.Method r2.1.Host r2.1.Path r2.1.Query r2.1.From r2.1.Headers r2.1.Body) r9.1.Response r9.1.At r9.1.Tags r9.1.Used) r2.1).bind fun r16=>(z3l (qo.mk (zu.mk 0 r2.1.Method r2.1.Host r2.1.Path r2.1.Query r2.1.From r2.1.Headers r2.1.Body) r9.1.Response r9.1.At r9.1.Tags r9.1.Used) (zu.mk r4.1.At r4.1.Method r4.1.Host r4.1.Path r4.1.Query r4.1.From r4.1.Headers r4.1.Body)).bind fun r18=>(z67 r9.1.Response).bind fun r20=>if decide (r16.2=0) then (if decide (r18.2=0) then (if decide (r20.2.2=0) then (if (r16.1 == (!r20.2.1)) then (if (r18.1 == r16.1) then ((z0e ).bind fun r32=>Zz r32) else (Zz false)) else (Zz false)) else (Zz false)) else (Zz false)) else (Zz false)))
/- models of functions that this seat does not reach: for the plain texts alone -/
structure wv where
 c_:Int
 plain_:Bool
noncomputable def w2u (out21:(List wv)):Option ((List wv)×Bool):=
 some (out21,true)
noncomputable def ub (s2:Bs) (l3:(List wv)):Option ((Bs×(List wv)) ⊕ ((List wv)×Bool)):=
 if decide (s2≠[]) then ((s2[0]?).bind fun (x6:UInt8)=>if decide ((x6.toNat:Int)≠37) then (if l3.length+1≤1000000000 then ((sub? s2 1 (s2.length:Int)).bind fun (l10:Bs)=>some (.inl (l10,(l3++[(wv.mk (x6.toNat:Int) true)])))) else none) else (if decide ((s2.length:Int) < 3) then (some (.inr ([],false))) else ((sub? s2 1 3).bind fun (l13:Bs)=>(z2w l13 16 8).bind fun r15=>if decide (r15.2≠0) then (some (.inr ([],false))) else (if l3.length+1≤1000000000 then ((sub? s2 3 (s2.length:Int)).bind fun (l19:Bs)=>some (.inl (l19,(l3++[(wv.mk (IntKind.wrap .u8 r15.1) false)])))) else none)))) else (Option.map .inr (w2u l3))
noncomputable def z3b (s1:Bs):Option ((List wv)×Bool):=
 iter (fun (s:Bs×(List wv))=>ub s.1 s.2) (s1,[])
noncomputable def y9w (n1:Int):Option (Bs):=
 (sub? [48,49,50,51,52,53,54,55,56,57,65,66,67,68,69,70] n1 (IntKind.wrap .u8 (n1+1))).bind fun (l2:Bs)=>some l2
noncomputable def z3d (c1:Int):Option (Bs):=
 (y9w (shr_ .u8 c1 4)).bind fun r2=>if [37].length+r2.length≤1000000000 then ((y9w (and_ .u8 c1 15)).bind fun r5=>if ([37]++r2).length+r5.length≤1000000000 then (some (([37]++r2)++r5)) else none) else none
noncomputable def y07 (c17:Int) (x22:Bs) (l28:(List Bs)):Option ((Int×(List Bs)) ⊕ (Bs×Int)):=
 if decide (x22=[46,46]) then (some (.inl (wr (c17+1),l28))) else (some (.inl (c17,l28)))
noncomputable def z4a (r15:((List Bs))) (k21:Nat) (x22:Bs) (c17:Int) (l18:(List Bs)):Option ((Int×(List Bs)) ⊕ (Bs×Int)):=
 if ((decide (x22=[46])) || (decide (x22=[46,46]))) then (if decide ((k21:Int)=(wr ((r15.length:Int) - 1))) then (if l18.length+1≤1000000000 then (y07 c17 x22 (l18++([[]]))) else none) else (y07 c17 x22 l18)) else (if decide (0 < c17) then (some (.inl (wr (c17 - 1),l18))) else (if l18.length+1≤1000000000 then (some (.inl (c17,(l18++[x22])))) else none))
noncomputable def y08 (c17:Int) (l18:(List Bs)):Option (Bs×Int):=
 (y9v l18).bind fun r32=>(vu r32 [47]).bind fun r34=>if [47].length+r34.length≤1000000000 then (some (([47]++r34),0)) else none
noncomputable def y06 (v53:Bs):Option (Bs ⊕ (Bs×Int)):=
 some (.inl v53)
noncomputable def z4b (v8:Bs) (x12:wv) (v47:Bool):Option (Bs ⊕ (Bs×Int)):=
 if v47 then (if v8.length+(strN [x12.c_]).length≤1000000000 then (y06 (v8++(strN [x12.c_]))) else none) else ((z3d x12.c_).bind fun r50=>if v8.length+r50.length≤1000000000 then (y06 (v8++r50)) else none)
noncomputable def z7y (k9:Nat) (x12:wv) (v8:Bs):Option (Bs ⊕ (Bs×Int)):=
 if x12.plain_ then (z4b v8 x12 true) else ((uo (encL (IntKind.wrap .i32 x12.c_)) [97,98,99,100,101,102,103,104,105,106,107,108,109,110,111,112,113,114,115,116,117,118,119,120,121,122,65,66,67,68,69,70,71,72,73,74,75,76,77,78,79,80,81,82,83,84,85,86,87,88,89,90,48,49,50,51,52,53,54,55,56,57,45,46,95,126]).bind fun r41=>if r41 then (z4b v8 x12 (decide (x12.c_ < 128))) else (z4b v8 x12 false))
noncomputable def y49 (v8:Bs):Option (Bs×Int):=
 (sub? v8 1 (v8.length:Int)).bind fun (l13:Bs)=>(ve l13 [47]).bind fun r15=>if r15.length≤1000000000 then back (fun (k:Nat) (x:Bs) (s:Int×(List Bs))=>z4a r15 k x s.1 s.2) (fun (s:Int×(List Bs))=>y08 s.1 s.2) r15 r15.length (0,([]:List Bs)) else none
noncomputable def y34 (v1:Bs):Option (Bs×Int):=
 (z3c v1).bind fun r2=>if !r2 then (some ([],3)) else ((z3b v1).bind fun r5=>if !r5.2 then (some ([],9)) else (if r5.1.length≤1000000000 then forL (fun (k:Nat) (x:wv) (s:Bs)=>z7y k x s) (fun (s:Bs)=>y49 s) 0 r5.1 [] else none))
noncomputable def z7w (k5:Nat) (x8:wv) (l4:(List Int)):Option ((List Int) ⊕ (Bs)):=
 if l4.length+1≤1000000000 then (some (.inl (l4++[x8.c_]))) else none
noncomputable def y03 (l4:(List Int)):Option (Bs):=
 some (strN l4)
noncomputable def z6n (s1:Bs):Option (Bs):=
 (z3b s1).bind fun r2=>if r2.1.length≤1000000000 then forL (fun (k:Nat) (x:wv) (s:(List Int))=>z7w k x s) (fun (s:(List Int))=>y03 s) 0 r2.1 [] else none
noncomputable def y48 (out28:(List zj)):Option ((List zj) ⊕ ((List zj)×Int)):=
 some (.inl out28)
noncomputable def z7x (k11:Nat) (x14:Bs) (l10:(List zj)):Option ((List zj) ⊕ ((List zj)×Int)):=
 if decide (x14=[]) then (y48 l10) else ((y9s x14 [43] [37,50,48]).bind fun r19=>(km r19 [61]).bind fun r21=>(z6n r21.1).bind fun r23=>(z6n r21.2.1).bind fun r25=>if l10.length+1≤1000000000 then (y48 (l10++[(zj.mk r23 r25)])) else none)
noncomputable def y05 (l10:(List zj)):Option ((List zj)×Int):=
 if decide (100 < (l10.length:Int)) then (some ([],2)) else (some (l10,0))
noncomputable def z6q (s1:Bs):Option ((List zj)×Int):=
 (un s1).bind fun r2=>if !r2 then (some ([],3)) else ((z3b s1).bind fun r5=>if !r5.2 then (some ([],9)) else ((ve s1 [38]).bind fun r8=>if r8.length≤1000000000 then forL (fun (k:Nat) (x:Bs) (s:(List zj))=>z7x k x s) (fun (s:(List zj))=>y05 s) 0 r8 [] else none))
noncomputable def y0a (p1:zj):Option (Bool):=
 if p1.Name.length+p1.Value.length≤1000000000 then (some (decide ((p1.Name++p1.Value)=[]))) else none
noncomputable def x67 (blockSize16:Int):Option (Int ⊕ ((List zj))):=
 some (.inl (wr (blockSize16 * 2)))
noncomputable def x68 (n2:Int) (blockSize16:Int) (a23:Int):Option (Int ⊕ ((List zj))):=
 if decide ((wr (a23+blockSize16)) < n2) then none else (x67 blockSize16)
noncomputable def x64 (n2:Int) (blockSize16:Int) (a19:Int) (b20:Int):Option ((Int×Int) ⊕ (Int ⊕ ((List zj)))):=
 if decide (b20≤n2) then none else (Option.map .inr (x68 n2 blockSize16 a19))
noncomputable def x65 (n2:Int) (r13:((List zj))) (blockSize16:Int):Option (Int ⊕ ((List zj))):=
 if decide (blockSize16 < n2) then (iter (fun (s:Int×Int)=>x64 n2 blockSize16 s.1 s.2) (0,wr (2 * blockSize16))) else (some (.inr r13))
noncomputable def x69 (n2:Int) (p2:zj→zj→Option (Int)) (a11:Int) (data12:(List zj)):Option ((List zj)):=
 (z6e data12 a11 n2 p2).bind fun r13=>if r13.length=data12.length then (iter (fun (s:Int)=>x65 n2 r13 s) 20) else none
noncomputable def x66 (n2:Int) (p2:zj→zj→Option (Int)) (a3:Int) (b4:Int) (l5:(List zj)):Option ((Int×Int×(List zj)) ⊕ ((List zj))):=
 if decide (b4≤n2) then ((z6e l5 a3 b4 p2).bind fun r8=>if r8.length=l5.length then (some (.inl (b4,wr (b4+20),r8))) else none) else (Option.map .inr (x69 n2 p2 a3 l5))
noncomputable def y9u (data1:(List zj)) (n2:Int) (p2:zj→zj→Option (Int)):Option ((List zj)):=
 iter (fun (s:Int×Int×(List zj))=>x66 n2 p2 s.1 s.2.1 s.2.2) (0,20,data1)
noncomputable def y3w (x1:(List zj)) (p1:zj→zj→Option (Int)):Option ((List zj)):=
 (y9u x1 (x1.length:Int) p1).bind fun r2=>if r2.length=x1.length then some r2 else none
noncomputable def y35 (a1:zj) (b2:zj):Option (Int):=
 if decide (a1.Name≠b2.Name) then ((Ww a1.Name b2.Name).bind fun r4=>some r4) else ((Ww a1.Value b2.Value).bind fun r6=>some r6)
noncomputable def y0z (out18:(List Int)):Option ((List Int) ⊕ (Bs)):=
 some (.inl out18)
noncomputable def z7v (k3:Nat) (x6:UInt8) (l2:(List Int)):Option ((List Int) ⊕ (Bs)):=
 if decide ((x6.toNat:Int)=32) then (if l2.length+1≤1000000000 then (y0z (l2++[43])) else none) else ((Wv [97,98,99,100,101,102,103,104,105,106,107,108,109,110,111,112,113,114,115,116,117,118,119,120,121,122,65,66,67,68,69,70,71,72,73,74,75,76,77,78,79,80,81,82,83,84,85,86,87,88,89,90,48,49,50,51,52,53,54,55,56,57,45,46,95,126] (x6.toNat:Int)).bind fun r11=>if decide (0≤r11) then (if l2.length+1≤1000000000 then (y0z (l2++[(x6.toNat:Int)])) else none) else ((z3d (x6.toNat:Int)).bind fun r15=>if l2.length+r15.length≤1000000000 then (y0z (l2++yj r15)) else none))
noncomputable def y00 (l2:(List Int)):Option (Bs):=
 some (strN l2)
noncomputable def z96 (s1:Bs):Option (Bs):=
 if s1.length≤1000000000 then forL (fun (k:Nat) (x:UInt8) (s:(List Int))=>z7v k x s) (fun (s:(List Int))=>y00 s) 0 s1 [] else none
noncomputable def x08 (k4:Nat) (x7:zj) (l3:(List Bs)):Option ((List Bs) ⊕ (Bs×Int)):=
 if ((decide (x7.Name=[])) && (decide (x7.Value=[]))) then (some (.inr ([],3))) else ((z96 x7.Name).bind fun r14=>if r14.length+[61].length≤1000000000 then ((z96 x7.Value).bind fun r17=>if (r14++[61]).length+r17.length≤1000000000 then (if l3.length+1≤1000000000 then (some (.inl (l3++([((r14++[61])++r17)])))) else none) else none) else none)
noncomputable def w2v (l3:(List Bs)):Option (Bs×Int):=
 (vu l3 [38]).bind fun r8=>if decide (1000 < (r8.length:Int)) then (some ([],2)) else (some (r8,0))
noncomputable def z98 (l1:(List zj)):Option (Bs×Int):=
 if decide (100 < (l1.length:Int)) then (some ([],2)) else (if l1.length≤1000000000 then forL (fun (k:Nat) (x:zj) (s:(List Bs))=>x08 k x s) (fun (s:(List Bs))=>w2v s) 0 l1 [] else none)
noncomputable def z71 (k24:Nat) (x27:zo) (l23:(List zo)):Option ((List zo) ⊕ (zu×Int)):=
 (jk x27.Name).bind fun r30=>if l23.length+1≤1000000000 then (some (.inl (l23++[(zo.mk r30 x27.Value)]))) else none
noncomputable def x09 (v1:zu) (r5:(Bs×Int)) (r7:(Bs×Int)) (r18:(Bs×Int)) (r21:(Bs)) (l23:(List zo)):Option (zu×Int):=
 some ((zu.mk v1.At r21 r5.1 r7.1 r18.1 v1.From l23 v1.Body),0)
noncomputable def y9x (v1:zu):Option (zu×Int):=
 (z0g v1).bind fun r2=>if decide (r2≠0) then (some ((zu.mk 0 [] [] [] [] [] [] []),r2)) else ((Qa v1.Host).bind fun r5=>(y34 v1.Path).bind fun r7=>if decide (r7.2≠0) then (some ((zu.mk 0 [] [] [] [] [] [] []),r7.2)) else ((z6q v1.Query).bind fun r10=>if decide (r10.2≠0) then (some ((zu.mk 0 [] [] [] [] [] [] []),r10.2)) else ((z2y r10.1 (fun (a0:zj)=>y0a a0)).bind fun r13=>(y3w r13 (fun (a0:zj) (a1:zj)=>y35 a0 a1)).bind fun r15=>if r15.length=r13.length then ((z98 r15).bind fun r18=>if decide (r18.2≠0) then (some ((zu.mk 0 [] [] [] [] [] [] []),r18.2)) else ((Yr v1.Method).bind fun r21=>if v1.Headers.length≤1000000000 then forL (fun (k:Nat) (x:zo) (s:(List zo))=>z71 k x s) (fun (s:(List zo))=>x09 v1 r5 r7 r18 r21 s) 0 v1.Headers ([]:List zo) else none)) else none)))
noncomputable def z97 (n1:Bs) (c2:zu) (c3:zu):Option (Bool):=
 (Yz c2.Headers n1).bind fun r4=>(Yz c3.Headers n1).bind fun r6=>(z2x r4 r6).bind fun r8=>some (!r8)
noncomputable def y37  : Option (Bool):=
 (z68 (ym.mk 200 ([(zo.mk [99,97,99,104,101,45,99,111,110,116,114,111,108] [109,97,120,45,97,103,101,61,50])]) [])).bind fun r1=>some ((decide (r1.2=0)) && (decide (r1.1=2000)))
structure w41 where
 Words:Bs
 Params:(List zj)
 Quality:Int
structure w4z where
 s_:Bs
 i_:Int
 bad_:Bool
structure w40 where
 s_:Bs
noncomputable def y36  : Option (Bool):=
 (Zt [47,97,47,46,46,47,98]).bind fun r1=>some ((decide (r1.2=0)) && (decide (r1.1=[47,98])))
end Go.Proofs.YtbndlmnjeofkdaaGreatDoor
