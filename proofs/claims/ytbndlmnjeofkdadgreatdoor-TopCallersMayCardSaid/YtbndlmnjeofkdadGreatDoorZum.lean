/- Plain models of functions. Printed by a program. -/
import Derived.Test.YtbndlmnjeofkdadGreatDoorMc
import Derived.Test.YtbndlmnjeofkdadGreatDoorRng
import Derived.Test.YtbndlmnjeofkdadGreatDoorMl
import Derived.Test.YtbndlmnjeofkdadGreatDoorMk
namespace Go.Proofs.YtbndlmnjeofkdadGreatDoor
set_option linter.unusedVariables false
set_option maxRecDepth 20000
structure qq where
 L:(List Int)
 at_:Int
structure zm where
 Id:Bs
 Subject:Bs
 Issuer:Bs
 Parent:Bs
 Audience:(List Bs)
 Scopes:(List Bs)
 From:Int
 To:Int
structure yh where
 Id:Bs
 Secret:Bs
 From:Int
 To:Int
 Until:Int
structure qs where
 Id:Bs
 At:Int
 Until:Int
structure vp where
 App:Bs
 Sum:Bs
 Scopes:(List Bs)
 From:Int
 To:Int
structure vg where
 Issuer:Bs
 Audience:Bs
 Signers:(List yh)
 Revoked:(List qs)
 Holders:(List vp)
 Skew:Int
structure jm where
 From:Int
 To:Int
structure vo where
 Key:Bs
 Weight:Int
structure yj where
 Name:Bs
 Value:Bs
structure kl where
 Status:Int
 Headers:(List yj)
 Body:Bs
structure yr where
 NoStore:Bool
 NoCache:Bool
 Private:Bool
 Public:Bool
 Must:Bool
 Only:Bool
 MaxAge:Int
 Shared:Int
 Stale:Int
 OnError:Int
 MaxStale:Int
 MinFresh:Int
structure qg where
 By:Int
 Name:Bs
 Scopes:(List Bs)
structure ud where
 At:Int
 Method:Bs
 Host:Bs
 Path:Bs
 Query:Bs
 From:Bs
 Headers:(List yj)
 Body:Bs
structure yl where
 lines_:(List Bs)
 ended_:Bool
 at_:Int
 bad_:Bool
def y0o (x:Int):Bool:=decide (x=0) || decide (x=1) || decide (x=2) || decide (x=3) || decide (x=4) || decide (x=5)
def y18 (c:yr) (x:Int) (y:Bool):yr:=if x=0 then yr.mk y c.NoCache c.Private c.Public c.Must c.Only c.MaxAge c.Shared c.Stale c.OnError c.MaxStale c.MinFresh else if x=1 then yr.mk c.NoStore y c.Private c.Public c.Must c.Only c.MaxAge c.Shared c.Stale c.OnError c.MaxStale c.MinFresh else if x=2 then yr.mk c.NoStore c.NoCache y c.Public c.Must c.Only c.MaxAge c.Shared c.Stale c.OnError c.MaxStale c.MinFresh else if x=3 then yr.mk c.NoStore c.NoCache c.Private y c.Must c.Only c.MaxAge c.Shared c.Stale c.OnError c.MaxStale c.MinFresh else if x=4 then yr.mk c.NoStore c.NoCache c.Private c.Public y c.Only c.MaxAge c.Shared c.Stale c.OnError c.MaxStale c.MinFresh else if x=5 then yr.mk c.NoStore c.NoCache c.Private c.Public c.Must y c.MaxAge c.Shared c.Stale c.OnError c.MaxStale c.MinFresh else c
def Zq (x:Int):Bool:=decide (x=6) || decide (x=7) || decide (x=8) || decide (x=9) || decide (x=10) || decide (x=11)
def Yx (c:yr) (x:Int):Int:=if x=6 then c.MaxAge else if x=7 then c.Shared else if x=8 then c.Stale else if x=9 then c.OnError else if x=10 then c.MaxStale else if x=11 then c.MinFresh else 0
def z8e (c:yr) (x:Int) (y:Int):yr:=if x=6 then yr.mk c.NoStore c.NoCache c.Private c.Public c.Must c.Only y c.Shared c.Stale c.OnError c.MaxStale c.MinFresh else if x=7 then yr.mk c.NoStore c.NoCache c.Private c.Public c.Must c.Only c.MaxAge y c.Stale c.OnError c.MaxStale c.MinFresh else if x=8 then yr.mk c.NoStore c.NoCache c.Private c.Public c.Must c.Only c.MaxAge c.Shared y c.OnError c.MaxStale c.MinFresh else if x=9 then yr.mk c.NoStore c.NoCache c.Private c.Public c.Must c.Only c.MaxAge c.Shared c.Stale y c.MaxStale c.MinFresh else if x=10 then yr.mk c.NoStore c.NoCache c.Private c.Public c.Must c.Only c.MaxAge c.Shared c.Stale c.OnError y c.MinFresh else if x=11 then yr.mk c.NoStore c.NoCache c.Private c.Public c.Must c.Only c.MaxAge c.Shared c.Stale c.OnError c.MaxStale y else c
noncomputable def z2q (x6:Int):Option (Int):=
 some x6
noncomputable def z0a (x1:Int) (n2:Int):Option (Int):=
 if decide (n2 < 1) then some 0 else (if n2≠0 then (if decide ((Int.tmod x1 n2) < 0) then (z2q (wr ((Int.tmod x1 n2)+n2))) else (z2q (Int.tmod x1 n2))) else none)
noncomputable def Yp (s1:qq) (n2:Int):Option (Int×qq):=
 if decide ((s1.L.length:Int)=0) then ((z0a (wr ((wr (s1.at_+1)) * 7919)) n2).bind fun r4=>some (r4,(qq.mk s1.L (wr (s1.at_+1))))) else (if (s1.L.length:Int)≠0 then (if ((0:Int)≤(wr ((wr (s1.at_+1)) - 1))∧(wr ((wr (s1.at_+1)) - 1))≤9223372036854775807)∧(0:Int) < (s1.L.length:Int) then ((at? s1.L (Int.tmod (wr ((wr (s1.at_+1)) - 1)) (s1.L.length:Int))).bind fun (x8:Int)=>(z0a x8 1073741824).bind fun r10=>(z0a (wr (r10+(wr (((wr ((wr (s1.at_+1)) - 1)) / (s1.L.length:Int)) * (wr (7919+(Int.tmod (wr ((wr (s1.at_+1)) - 1)) (s1.L.length:Int)))))))) n2).bind fun r12=>some (r12,(qq.mk s1.L (wr (s1.at_+1))))) else none) else none)
noncomputable def Zj (s1:qq) (l2:(List Bs)):Option (Bs×qq):=
 (Yp s1 (l2.length:Int)).bind fun r3=>(at? l2 r3.1).bind fun (x5:Bs)=>some (x5,r3.2)
noncomputable def z19 (s1:qq) (low2:Int) (high3:Int):Option (Int×qq):=
 if decide (high3 < low2) then (some (low2,s1)) else ((Yp s1 (wr ((wr (high3 - low2))+1))).bind fun r5=>some (wr (low2+r5.1),r5.2))
noncomputable def y0d (k7:Nat) (c4:(List Int)) (c5:Int) (l6:(List Bs)):Option (((List Int)×Int×(List Bs)) ⊕ ((List Bs)×qq)):=
 (Zj (qq.mk c4 c5) ([[97],[97,58,42],[97,58,98],[97,58,98,58,42],[97,58,98,58,99],[98],[98,58,42],[98,58,99],[42]])).bind fun r11=>if l6.length+1≤1000000000 then (some (.inl (r11.2.L,r11.2.at_,(l6++[r11.1])))) else none
noncomputable def y0e (c4:(List Int)) (c5:Int) (l6:(List Bs)):Option ((List Bs)×qq):=
 some (l6,(qq.mk c4 c5))
noncomputable def z17 (s1:qq):Option ((List Bs)×qq):=
 (z19 s1 0 4).bind fun r2=>if r2.1≤1000000000 then rng (fun (k:Nat) (s:(List Int)×Int×(List Bs))=>y0d k s.1 s.2.1 s.2.2) (fun (s:(List Int)×Int×(List Bs))=>y0e s.1 s.2.1 s.2.2) r2.1.toNat 0 (r2.2.L,r2.2.at_,[]) else none
noncomputable def y2d (p1:Bs→Option (Bool)) (k2:Nat) (x5:Bs):Option (Unit ⊕ (Int)):=
 (p1 x5).bind fun r8=>if r8 then (some (.inr (k2:Int))) else (some (.inl ()))
noncomputable def y2e:Option (Int):=
 some (-1)
noncomputable def z9e (s1:(List Bs)) (p1:Bs→Option (Bool)):Option (Int):=
 if s1.length≤1000000000 then forL (fun (k:Nat) (x:Bs) (s:Unit)=>y2d p1 k x) (fun (s:Unit)=>y2e) 0 s1 () else none
noncomputable def Wt (s1:(List Bs)) (p1:Bs→Option (Bool)):Option (Bool):=
 (z9e s1 p1).bind fun r2=>some (decide (0≤r2))
noncomputable def z5v (a1:Bs) (b2:Bs):Option (Bool):=
 (Wq a1 [42]).bind fun r3=>if r3.2 then ((Wp b2 r3.1).bind fun r6=>some r6) else (some (decide (a1=b2)))
noncomputable def z2p (v8:Bool):Option (Bool):=
 some v8
noncomputable def z5w (o1:Bs) (c2:Bs):Option (Bool):=
 if decide (o1≠c2) then ((z5v o1 c2).bind fun r5=>z2p r5) else (z2p false)
noncomputable def z2o (out17:(List Bs)):Option ((List Bs) ⊕ ((List Bs))):=
 some (.inl out17)
noncomputable def y0a (l1:(List Bs)) (k3:Nat) (x6:Bs) (l2:(List Bs)):Option ((List Bs) ⊕ ((List Bs))):=
 (Wt l1 (fun (a0:Bs)=>z5w a0 x6)).bind fun r13=>if !r13 then (if l2.length+1≤1000000000 then (z2o (l2++[x6])) else none) else (z2o l2)
noncomputable def y0b (l2:(List Bs)):Option ((List Bs)):=
 (xe l2).bind fun r7=>(Wu r7).bind fun r9=>some r9
noncomputable def z5x (l1:(List Bs)):Option ((List Bs)):=
 if l1.length≤1000000000 then forL (fun (k:Nat) (x:Bs) (s:(List Bs))=>y0a l1 k x s) (fun (s:(List Bs))=>y0b s) 0 l1 [] else none
noncomputable def z2a (s1:qq) (l2:(List Int)):Option (Int×qq):=
 (Yp s1 (l2.length:Int)).bind fun r3=>(at? l2 r3.1).bind fun (x5:Int)=>some (x5,r3.2)
noncomputable def z5y (s1:qq):Option (zm×qq):=
 (Zj s1 ([[116,49],[116,49],[116,50],[116,51]])).bind fun r2=>(Zj r2.2 ([[97,110,110],[98,111,98]])).bind fun r4=>(Zj r4.2 ([[103,97,116,101],[103,97,116,101],[103,97,116,101],[111,116,104,101,114]])).bind fun r6=>(Zj r6.2 ([[],[],[],[116,48],[116,50]])).bind fun r8=>(Yp r8.2 5).bind fun r10=>(at? ([[],[],[[115,104,111,112]],[[109,97,112,115],[115,104,111,112]],[[109,97,112,115]]]) r10.1).bind fun (x12:(List Bs))=>(z17 r10.2).bind fun r14=>(z5x r14.1).bind fun r16=>(z2a r14.2 [0,50,100]).bind fun r18=>(z2a r18.2 [1,50,100,200]).bind fun r20=>some ((zm.mk r2.1 r4.1 r6.1 r8.1 x12 r16 r18.1 (wr (r18.1+r20.1))),r20.2)
noncomputable def z9u (i2:Nat) (x5:UInt8):Option (Unit ⊕ (Bool)):=
 if !(((decide (97≤(x5.toNat:Int))) && (decide ((x5.toNat:Int)≤122))) || ((decide (0 < (i2:Int))) && ((((decide (48≤(x5.toNat:Int))) && (decide ((x5.toNat:Int)≤57))) || (decide ((x5.toNat:Int)=45))) || (decide ((x5.toNat:Int)=95))))) then (some (.inr false)) else (some (.inl ()))
noncomputable def y3t (s1:Bs):Option (Bool):=
 some ((decide (s1≠[])) && (decide ((s1.length:Int)≤40)))
noncomputable def jf (s1:Bs):Option (Bool):=
 if s1.length≤1000000000 then forL (fun (k:Nat) (x:UInt8) (s:Unit)=>z9u k x) (fun (s:Unit)=>y3t s1) 0 s1 () else none
noncomputable def z0b (v16:Bool):Option (Unit ⊕ (Int)):=
 if v16 then (some (.inr 7)) else (some (.inl ()))
noncomputable def z9t (l1:(List Bs)) (k2:Nat) (x5:Bs):Option (Unit ⊕ (Int)):=
 (jf x5).bind fun r8=>if !r8 then (some (.inr 5)) else (if decide (0 < (k2:Int)) then ((at? l1 ((k2:Int) - 1)).bind fun (x13:Bs)=>z0b (Op.bytesLess x5 x13 || x5 == x13)) else (z0b false))
noncomputable def y3s:Option (Int):=
 some 0
noncomputable def z5q (l1:(List Bs)):Option (Int):=
 if l1.length≤1000000000 then forL (fun (k:Nat) (x:Bs) (s:Unit)=>z9t l1 k x) (fun (s:Unit)=>y3s) 0 l1 () else none
noncomputable def z7x (r2:((List Bs))) (k4:Nat) (x7:Bs):Option (Unit ⊕ (Bool)):=
 (jf x7).bind fun r10=>if ((!r10) && (!((decide (x7=[42])) && (decide ((k4:Int)=(wr ((r2.length:Int) - 1))))))) then (some (.inr false)) else (some (.inl ()))
noncomputable def y1t (r2:((List Bs))):Option (Bool):=
 some (decide ((r2.length:Int)≤10))
noncomputable def z4w (s1:Bs):Option (Bool):=
 (jj s1 [58]).bind fun r2=>if r2.length≤1000000000 then forL (fun (k:Nat) (x:Bs) (s:Unit)=>z7x r2 k x) (fun (s:Unit)=>y1t r2) 0 r2 () else none
noncomputable def z73 (k3:Nat) (x6:Bs):Option (Unit ⊕ (Int)):=
 (z4w x6).bind fun r9=>if !r9 then (some (.inr 3)) else (some (.inl ()))
noncomputable def y1x:Option (Int):=
 some 0
noncomputable def Yi (l1:(List Bs)):Option (Int):=
 if decide (50 < (l1.length:Int)) then some 2 else (if l1.length≤1000000000 then forL (fun (k:Nat) (x:Bs) (s:Unit)=>z73 k x) (fun (s:Unit)=>y1x) 0 l1 () else none)
noncomputable def Wy (l1:(List Bs)):Option ((List Bs)):=
 (um l1).bind fun r2=>(xe r2).bind fun r4=>(Wu r4).bind fun r6=>some r6
noncomputable def z4d (j6:Int) (i17:Int) (s18:(List Bs)):Option ((Int×Int×(List Bs)) ⊕ ((List Bs))):=
 some (.inl (i17,wr (j6+1),s18))
noncomputable def z8h (i19:Int) (s20:(List Bs)):Option ((List Bs)):=
 if (0:Int)≤i19∧i19 < (s20.length:Int) then (if (0:Int)≤i19∧i19≤((s20.take i19.toNat++List.replicate (s20.length - i19.toNat) []).length:Int) then (some ((s20.take i19.toNat++List.replicate (s20.length - i19.toNat) []).take i19.toNat)) else none) else none
noncomputable def y2k (p1:Bs→Option (Bool)) (i5:Int) (j6:Int) (l7:(List Bs)):Option ((Int×Int×(List Bs)) ⊕ ((List Bs))):=
 if decide (j6 < (l7.length:Int)) then ((at? l7 j6).bind fun (x10:Bs)=>(p1 x10).bind fun r12=>if !r12 then ((at? l7 i5).bind fun (x15:Bs)=>z4d j6 (wr (i5+1)) (l7.set i5.toNat x10)) else (z4d j6 i5 l7)) else (Option.map .inr (z8h i5 l7))
noncomputable def z9f (s1:(List Bs)) (p1:Bs→Option (Bool)):Option ((List Bs)):=
 (z9e s1 p1).bind fun r2=>if decide (r2=(-1)) then some s1 else (iter (fun (s:Int×Int×(List Bs))=>y2k p1 s.1 s.2.1 s.2.2) (r2,wr (r2+1),s1))
noncomputable def z0y (v11:Bool):Option (Bool):=
 some v11
noncomputable def z1q (a1:Bs) (b2:Bs):Option (Bool):=
 if decide (a1=b2) then some true else ((Wq a1 [42]).bind fun r4=>if r4.2 then ((Wp b2 r4.1).bind fun r8=>z0y r8) else (z0y false))
noncomputable def z0w (v8:Bool):Option (Bool):=
 some v8
noncomputable def z4t (h1:Bs) (c2:Bs):Option (Bool):=
 if decide (h1≠c2) then ((z1q h1 c2).bind fun r5=>z0w r5) else (z0w false)
noncomputable def z4u (s1:Bs) (c2:(List Bs)):Option (Bool):=
 (Wt c2 (fun (a0:Bs)=>z4t a0 s1)).bind fun r3=>some r3
noncomputable def Wl (l1:(List Bs)):Option ((List Bs)):=
 (Wy l1).bind fun r2=>(um r2).bind fun r4=>(z9f r4 (fun (a0:Bs)=>z4u a0 r2)).bind fun r6=>some r6
noncomputable def z8g (s2:(List Bs)) (k4:Nat) (x7:Bs):Option (Unit ⊕ (Bool)):=
 (s2[k4]?).bind fun (x10:Bs)=>if decide (x7≠x10) then (some (.inr false)) else (some (.inl ()))
noncomputable def y2j:Option (Bool):=
 some true
noncomputable def z1w (s1:(List Bs)) (s2:(List Bs)):Option (Bool):=
 if decide ((s1.length:Int)≠(s2.length:Int)) then some false else (if s1.length≤1000000000 then forL (fun (k:Nat) (x:Bs) (s:Unit)=>z8g s2 k x) (fun (s:Unit)=>y2j) 0 s1 () else none)
noncomputable def xa (v1:zm) (v22:Bool):Option (Int):=
 if v22 then some 5 else (if decide (50 < (v1.Audience.length:Int)) then some 2 else ((z5q v1.Audience).bind fun r25=>if decide (r25≠0) then some r25 else ((Yi v1.Scopes).bind fun r28=>if decide (r28≠0) then some r28 else ((Wl v1.Scopes).bind fun r31=>(z1w v1.Scopes r31).bind fun r33=>if !r33 then some 7 else (if (((decide (v1.From < 0)) || (decide (v1.To≤v1.From))) || (decide (345686400000 < v1.To))) then some 1 else some 0)))))
noncomputable def Zf (v1:zm):Option (Int):=
 (jf v1.Id).bind fun r2=>if !r2 then (xa v1 true) else ((jf v1.Subject).bind fun r6=>if !r6 then (xa v1 true) else ((jf v1.Issuer).bind fun r10=>if !r10 then (xa v1 true) else (if decide (v1.Parent≠[]) then ((jf v1.Parent).bind fun r16=>xa v1 (!r16)) else (xa v1 false))))
noncomputable def z4y (h1:Bs) (c2:Bs):Option (Bool):=
 (z1q h1 c2).bind fun r3=>some r3
noncomputable def z4z (l1:(List Bs)) (s2:Bs):Option (Bool):=
 (Wt l1 (fun (a0:Bs)=>z4y a0 s2)).bind fun r3=>some r3
noncomputable def z40 (s1:Bs) (c2:(List Bs)):Option (Bool):=
 (z4z c2 s1).bind fun r3=>some (!r3)
noncomputable def z1r (v1:(List Bs)) (want2:(List Bs)):Option (Bool):=
 (Wt want2 (fun (a0:Bs)=>z40 a0 v1)).bind fun r3=>some (!r3)
noncomputable def Qk (v1:zm) (v2:Bs) (v3:Bs) (v4:(List Bs)) (v5:jm) (v19:Bool):Option (zm×Int):=
 if v19 then (some ((zm.mk [] [] [] [] [] [] 0 0),5)) else (if decide (v2=v1.Id) then (some ((zm.mk [] [] [] [] [] [] 0 0),14)) else ((z1r v1.Scopes v4).bind fun r22=>if !r22 then (some ((zm.mk [] [] [] [] [] [] 0 0),16)) else (if ((decide (v5.From < v1.From)) || (decide (v1.To < v5.To))) then (some ((zm.mk [] [] [] [] [] [] 0 0),16)) else ((um v1.Audience).bind fun r26=>(Wl v4).bind fun r28=>(Zf (zm.mk v2 v3 v1.Issuer v1.Id r26 r28 v5.From v5.To)).bind fun r30=>if decide (r30≠0) then (some ((zm.mk [] [] [] [] [] [] 0 0),r30)) else (some ((zm.mk v2 v3 v1.Issuer v1.Id r26 r28 v5.From v5.To),0))))))
noncomputable def z48 (v1:zm) (v2:Bs) (v3:Bs) (v4:(List Bs)) (v5:jm):Option (zm×Int):=
 (Zf v1).bind fun r6=>if decide (r6≠0) then (some ((zm.mk [] [] [] [] [] [] 0 0),r6)) else ((Yi v4).bind fun r9=>if decide (r9≠0) then (some ((zm.mk [] [] [] [] [] [] 0 0),r9)) else ((jf v2).bind fun r12=>if !r12 then (Qk v1 v2 v3 v4 v5 true) else ((jf v3).bind fun r16=>Qk v1 v2 v3 v4 v5 (!r16))))
noncomputable def z1g (v13:Bool):Option (Unit ⊕ (Bool)):=
 if v13 then (some (.inr false)) else (some (.inl ()))
noncomputable def z8w (low2:Int) (high3:Int) (k4:Nat) (x7:UInt8):Option (Unit ⊕ (Bool)):=
 if decide ((x7.toNat:Int) < low2) then (z1g true) else (z1g (decide (high3 < (x7.toNat:Int))))
noncomputable def z8x:Option (Bool):=
 some true
noncomputable def Wv (s1:Bs) (low2:Int) (high3:Int):Option (Bool):=
 if s1.length≤1000000000 then forL (fun (k:Nat) (x:UInt8) (s:Unit)=>z8w low2 high3 k x) (fun (s:Unit)=>z8x) 0 s1 () else none
noncomputable def Ye (v17:Bool):Option (Int):=
 if v17 then some 3 else some 0
noncomputable def Ww (s1:Bs):Option (Int):=
 if decide (1000 < (s1.length:Int)) then (Ye true) else ((Wp s1 [47]).bind fun r4=>if !r4 then (Ye true) else ((Wv s1 33 126).bind fun r8=>if !r8 then (Ye true) else ((z5f s1 [63,35]).bind fun r12=>Ye r12)))
noncomputable def z9d (l1:(List Int)) (c2:Int):Option (Int×(List Int)):=
 if l1.length+1≤1000000000 then (some (0,(l1++[c2]))) else none
noncomputable def z1y (c1:Int):Option (Bool):=
 some ((decide (48≤c1)) && (decide (c1≤57)))
noncomputable def z9h (c1:Int):Option (Bool):=
 (z1y c1).bind fun r2=>some ((r2 || ((decide (97≤c1)) && (decide (c1≤102)))) || ((decide (65≤c1)) && (decide (c1≤70))))
noncomputable def z1e (v17:Bool):Option (Bool):=
 some v17
noncomputable def y3c (s1:Bs) (v2:Int):Option (Bool):=
 if decide ((wr (v2+2)) < (s1.length:Int)) then ((at? s1 (wr (v2+1))).bind fun (x5:UInt8)=>(z9h (x5.toNat:Int)).bind fun r7=>if r7 then ((at? s1 (wr (v2+2))).bind fun (x11:UInt8)=>(z9h (x11.toNat:Int)).bind fun r13=>z1e r13) else (z1e false)) else (z1e false)
noncomputable def ju (c1:Int):Option (Int):=
 some (or_ .u8 c1 32)
noncomputable def z2i (v47:Int) (v85:Int):Option ((Int×Int) ⊕ (Bool)):=
 some (.inl (v85,wr (v47+1)))
noncomputable def xg (v14:Bs) (v46:Int) (v47:Int) (v78:Bool):Option ((Int×Int) ⊕ (Bool)):=
 if v78 then (z2i v47 48) else ((at? v14 v47).bind fun (x80:UInt8)=>if decide ((x80.toNat:Int)=95) then (if decide (v46≠48) then (some (.inr false)) else (z2i v47 95)) else (if decide (v46=95) then (some (.inr false)) else (z2i v47 33)))
noncomputable def z95 (v86:Int):Option (Bool):=
 some (decide (v86≠95))
noncomputable def y4h (v14:Bs) (v45:Bool) (v46:Int) (v47:Int):Option ((Int×Int) ⊕ (Bool)):=
 if decide (v47 < (v14.length:Int)) then ((at? v14 v47).bind fun (x50:UInt8)=>if decide (48≤(x50.toNat:Int)) then (if decide ((x50.toNat:Int)≤57) then (xg v14 v46 v47 true) else (if v45 then ((ju (x50.toNat:Int)).bind fun r58=>if decide (97≤r58) then ((ju (x50.toNat:Int)).bind fun r62=>xg v14 v46 v47 (decide (r62≤102))) else (xg v14 v46 v47 false)) else (xg v14 v46 v47 false))) else (if v45 then ((ju (x50.toNat:Int)).bind fun r70=>if decide (97≤r70) then ((ju (x50.toNat:Int)).bind fun r74=>xg v14 v46 v47 (decide (r74≤102))) else (xg v14 v46 v47 false)) else (xg v14 v46 v47 false))) else (Option.map .inr (z95 v46))
noncomputable def z6f (v14:Bs) (v43:Int) (v44:Int) (v45:Bool):Option (Bool):=
 iter (fun (s:Int×Int)=>y4h v14 v45 s.1 s.2) (v43,v44)
noncomputable def Yt (v14:Bs) (v37:Bool):Option (Bool):=
 if v37 then ((v14[1]?).bind fun (x39:UInt8)=>(ju (x39.toNat:Int)).bind fun r41=>z6f v14 48 2 (decide (r41=120))) else (z6f v14 94 0 false)
noncomputable def z6g (v14:Bs):Option (Bool):=
 if decide (2≤(v14.length:Int)) then ((v14[0]?).bind fun (x17:UInt8)=>if decide ((x17.toNat:Int)=48) then ((v14[1]?).bind fun (x21:UInt8)=>(ju (x21.toNat:Int)).bind fun r23=>if decide (r23=98) then (Yt v14 true) else ((ju (x21.toNat:Int)).bind fun r27=>if decide (r27=111) then (Yt v14 true) else ((ju (x21.toNat:Int)).bind fun r31=>Yt v14 (decide (r31=120))))) else (Yt v14 false)) else (Yt v14 false)
noncomputable def z2j (v1:Bs) (v10:Bool):Option (Bool):=
 if v10 then ((sub? v1 1 (v1.length:Int)).bind fun (l12:Bs)=>z6g l12) else (z6g v1)
noncomputable def y3f (v1:Bs):Option (Bool):=
 if decide (1≤(v1.length:Int)) then ((v1[0]?).bind fun (x4:UInt8)=>if decide ((x4.toNat:Int)=45) then (z2j v1 true) else (z2j v1 (decide ((x4.toNat:Int)=43)))) else (z2j v1 false)
noncomputable def z6i (v87:Bool) (v88:Int):Option ((Bool×Int) ⊕ (Int×Int)):=
 some (.inl (v87,v88))
noncomputable def z6p (v46:Int) (v49:Int) (v53:Int) (v55:Bool) (v56:Int) (v83:Int):Option ((Bool×Int) ⊕ (Int×Int)):=
 if decide ((IntKind.wrap .u8 v46)≤v83) then (some (.inr (0,2))) else (if decide (v53≤v56) then (some (.inr (IntKind.wrap .u64 ((shl_ .u64 1 (IntKind.wrap .u64 v49)) - 1),1))) else (if ((decide ((IntKind.wrap .u64 ((IntKind.wrap .u64 (v56 * (IntKind.wrap .u64 v46)))+(IntKind.wrap .u64 v83))) < (IntKind.wrap .u64 (v56 * (IntKind.wrap .u64 v46))))) || (decide ((IntKind.wrap .u64 ((shl_ .u64 1 (IntKind.wrap .u64 v49)) - 1)) < (IntKind.wrap .u64 ((IntKind.wrap .u64 (v56 * (IntKind.wrap .u64 v46)))+(IntKind.wrap .u64 v83)))))) then (some (.inr (IntKind.wrap .u64 ((shl_ .u64 1 (IntKind.wrap .u64 v49)) - 1),1))) else (z6i v55 (IntKind.wrap .u64 ((IntKind.wrap .u64 (v56 * (IntKind.wrap .u64 v46)))+(IntKind.wrap .u64 v83))))))
noncomputable def z6o (v46:Int) (v49:Int) (v53:Int) (v55:Bool) (v56:Int) (x60:Int) (v79:Bool):Option ((Bool×Int) ⊕ (Int×Int)):=
 if v79 then ((ju x60).bind fun r81=>z6p v46 v49 v53 v55 v56 (IntKind.wrap .u8 ((IntKind.wrap .u8 (r81 - 97))+10))) else (some (.inr (0,2)))
noncomputable def y4j (v2:Int) (v46:Int) (v49:Int) (v53:Int) (k57:Nat) (x60:Int) (v55:Bool) (v56:Int):Option ((Bool×Int) ⊕ (Int×Int)):=
 if ((decide (x60=95)) && (decide (v2=0))) then (z6i true v56) else (if ((decide (48≤x60)) && (decide (x60≤57))) then (z6p v46 v49 v53 v55 v56 (IntKind.wrap .u8 (x60 - 48))) else ((ju x60).bind fun r72=>if decide (97≤r72) then ((ju x60).bind fun r76=>z6o v46 v49 v53 v55 v56 x60 (decide (r76≤122))) else (z6o v46 v49 v53 v55 v56 x60 false)))
noncomputable def z6j (v56:Int) (v66:Bool):Option (Int×Int):=
 if v66 then (some (0,2)) else (some (v56,0))
noncomputable def y4k (v1:Bs) (v55:Bool) (v56:Int):Option (Int×Int):=
 if v55 then ((y3f v1).bind fun r63=>z6j v56 (!r63)) else (z6j v56 false)
noncomputable def z2l (v1:Bs) (v2:Int) (v45:Bs) (v46:Int) (v49:Int) (v53:Int):Option (Int×Int):=
 if (0:Int)≤(IntKind.wrap .u64 v49) then (if (qn v45).length≤1000000000 then forL (fun (k:Nat) (x:Int) (s:Bool×Int)=>y4j v2 v46 v49 v53 k x s.1 s.2) (fun (s:Bool×Int)=>y4k v1 s.1 s.2) 0 (qn v45) (false,0) else none) else none
noncomputable def z6k (v1:Bs) (v2:Int) (v45:Bs) (v46:Int) (v49:Int):Option (Int×Int):=
 if decide (v46=10) then (z2l v1 v2 v45 v46 v49 1844674407370955162) else (if decide (v46=16) then (z2l v1 v2 v45 v46 v49 1152921504606846976) else (if (IntKind.wrap .u64 v46)≠0 then (z2l v1 v2 v45 v46 v49 (IntKind.wrap .u64 ((IntKind.wrap .u64 (Int.tdiv 18446744073709551615 (IntKind.wrap .u64 v46)))+1))) else none))
noncomputable def Zm (v1:Bs) (v2:Int) (v3:Int) (v45:Bs) (v46:Int):Option (Int×Int):=
 if decide (v3=0) then (z6k v1 v2 v45 v46 64) else (if ((decide (v3 < 0)) || (decide (64 < v3))) then (some (0,4)) else (z6k v1 v2 v45 v46 v3))
noncomputable def z6l (v1:Bs) (v2:Int) (v3:Int) (v39:Bool):Option (Int×Int):=
 if v39 then ((sub? v1 2 (v1.length:Int)).bind fun (l41:Bs)=>Zm v1 v2 v3 l41 16) else ((sub? v1 1 (v1.length:Int)).bind fun (l43:Bs)=>Zm v1 v2 v3 l43 8)
noncomputable def z6m (v1:Bs) (v2:Int) (v3:Int) (v28:Bool):Option (Int×Int):=
 if v28 then ((sub? v1 2 (v1.length:Int)).bind fun (l30:Bs)=>Zm v1 v2 v3 l30 8) else (if decide (3≤(v1.length:Int)) then ((v1[1]?).bind fun (x34:UInt8)=>(ju (x34.toNat:Int)).bind fun r36=>z6l v1 v2 v3 (decide (r36=120))) else (z6l v1 v2 v3 false))
noncomputable def z6n (v1:Bs) (v2:Int) (v3:Int) (v17:Bool):Option (Int×Int):=
 if v17 then ((sub? v1 2 (v1.length:Int)).bind fun (l19:Bs)=>Zm v1 v2 v3 l19 2) else (if decide (3≤(v1.length:Int)) then ((v1[1]?).bind fun (x23:UInt8)=>(ju (x23.toNat:Int)).bind fun r25=>z6m v1 v2 v3 (decide (r25=111))) else (z6m v1 v2 v3 false))
noncomputable def z9k (v1:Bs) (v2:Int) (v3:Int):Option (Int×Int):=
 if decide (v1=[]) then (some (0,2)) else (if ((decide (2≤v2)) && (decide (v2≤36))) then (Zm v1 v2 v3 v1 v2) else (if decide (v2=0) then ((v1[0]?).bind fun (x7:UInt8)=>if decide ((x7.toNat:Int)=48) then (if decide (3≤(v1.length:Int)) then ((v1[1]?).bind fun (x12:UInt8)=>(ju (x12.toNat:Int)).bind fun r14=>z6n v1 v2 v3 (decide (r14=98))) else (z6n v1 v2 v3 false)) else (Zm v1 v2 v3 v1 10)) else (some (0,3))))
noncomputable def y27 (s1:Bs) (base2:Int) (bitSize3:Int):Option (Int×Int):=
 (z9k s1 base2 bitSize3).bind fun r4=>if decide (r4.2≠0) then ((y26 [80,97,114,115,101,85,105,110,116] s1 base2 bitSize3 r4.2).bind fun r7=>some (r4.1,r7)) else (some (r4.1,0))
noncomputable def y3a (s1:Bs) (v2:Int):Option (Int):=
 (sub? s1 (wr (v2+1)) (wr (v2+3))).bind fun (l3:Bs)=>(y27 l3 16 8).bind fun r5=>if decide (r5.2≠0) then some 0 else (some (IntKind.wrap .u8 r5.1))
noncomputable def z5l (c1:Int):Option (Bool):=
 some (((decide (97≤c1)) && (decide (c1≤122))) || ((decide (65≤c1)) && (decide (c1≤90))))
noncomputable def z1i (v14:Bool):Option (Bool):=
 some v14
noncomputable def y3e (c1:Int):Option (Bool):=
 (z5l c1).bind fun r2=>if r2 then (z1i true) else ((z1y c1).bind fun r6=>if r6 then (z1i true) else ((Yk [45,46,95,126] c1).bind fun r10=>z1i (decide (0≤r10))))
noncomputable def y3b (c1:Int):Option (Bs):=
 (at? [48,49,50,51,52,53,54,55,56,57,65,66,67,68,69,70] (shr_ .u8 c1 4)).bind fun (x2:UInt8)=>(at? [48,49,50,51,52,53,54,55,56,57,65,66,67,68,69,70] (and_ .u8 c1 15)).bind fun (x4:UInt8)=>some (strN [37,(x2.toNat:Int),(x4.toNat:Int)])
noncomputable def y25 (l1:(List Int)) (s2:Bs):Option (Int×Int×(List Int)):=
 if l1.length+s2.length≤1000000000 then (some ((s2.length:Int),0,(l1++qn s2))) else none
noncomputable def z4m (i26:Int) (l27:(List Int)):Option ((Int×(List Int)) ⊕ (Bs×Bool)):=
 some (.inl (wr (i26+1),l27))
noncomputable def z4l (i2:Int) (l25:(List Int)):Option ((Int×(List Int)) ⊕ (Bs×Bool)):=
 z4m (wr (i2+2)) l25
noncomputable def z8v (l28:(List Int)):Option (Bs×Bool):=
 if byR l28=true then (some ((strN l28),true)) else none
noncomputable def y2x (s1:Bs) (i2:Int) (l3:(List Int)):Option ((Int×(List Int)) ⊕ (Bs×Bool)):=
 if decide (i2 < (s1.length:Int)) then ((at? s1 i2).bind fun (x6:UInt8)=>if decide ((x6.toNat:Int)≠37) then ((z9d l3 (x6.toNat:Int)).bind fun r9=>z4m i2 r9.2) else ((y3c s1 i2).bind fun r11=>if !r11 then (some (.inr ([],false))) else ((y3a s1 i2).bind fun r14=>(y3e r14).bind fun r16=>if r16 then ((z9d l3 r14).bind fun r19=>z4l i2 r19.2) else ((y3b r14).bind fun r21=>(y25 l3 r21).bind fun r23=>z4l i2 r23.2.2)))) else (Option.map .inr (z8v l3))
noncomputable def z5i (s1:Bs):Option (Bs×Bool):=
 iter (fun (s:Int×(List Int))=>y2x s1 s.1 s.2) (0,([]:List Int))
noncomputable def z1m (out29:(List Bs)):Option ((List Bs) ⊕ (Bs×Int)):=
 some (.inl out29)
noncomputable def z4n (r10:((List Bs))) (k13:Nat) (out26:(List Bs)):Option ((List Bs) ⊕ (Bs×Int)):=
 if decide ((k13:Int)=(wr ((r10.length:Int) - 1))) then (if out26.length+1≤1000000000 then (z1m (out26++([[]]))) else none) else (z1m out26)
noncomputable def z82 (r10:((List Bs))) (k13:Nat) (x16:Bs) (l12:(List Bs)):Option ((List Bs) ⊕ (Bs×Int)):=
 if decide (x16=[46]) then (z4n r10 k13 l12) else (if decide (x16=[46,46]) then (if (0:Int)≤(max (wr ((l12.length:Int) - 1)) 0)∧(max (wr ((l12.length:Int) - 1)) 0)≤(l12.length:Int) then (z4n r10 k13 (l12.take (max (wr ((l12.length:Int) - 1)) 0).toNat)) else none) else (if l12.length+1≤1000000000 then (z1m (l12++[x16])) else none))
noncomputable def z83 (l12:(List Bs)):Option (Bs×Int):=
 (ua l12 [47]).bind fun r17=>if [47].length+r17.length≤1000000000 then (some (([47]++r17),0)) else none
noncomputable def z1z (s1:Bs):Option (Bs×Int):=
 (Ww s1).bind fun r2=>if decide (r2≠0) then (some ([],r2)) else ((z5i s1).bind fun r5=>if !r5.2 then (some ([],9)) else ((sub? r5.1 1 (r5.1.length:Int)).bind fun (l8:Bs)=>(jj l8 [47]).bind fun r10=>if r10.length≤1000000000 then forL (fun (k:Nat) (x:Bs) (s:(List Bs))=>z82 r10 k x s) (fun (s:(List Bs))=>z83 s) 0 r10 [] else none))
noncomputable def ub (n1:Int) (low2:Int) (high3:Int):Option (Bool):=
 some ((decide (n1 < low2)) || (decide (high3 < n1)))
noncomputable def z3c (x6:vo) (v17:Bool):Option (Unit ⊕ (Int)):=
 if v17 then (some (.inr 7)) else ((ub x6.Weight 1 100).bind fun r19=>if r19 then (some (.inr 1)) else (some (.inl ())))
noncomputable def y03 (l1:(List vo)) (k3:Nat) (x6:vo):Option (Unit ⊕ (Int)):=
 (jf x6.Key).bind fun r9=>if !r9 then (some (.inr 5)) else (if decide (0 < (k3:Int)) then ((at? l1 ((k3:Int) - 1)).bind fun (x14:vo)=>z3c x6 (Op.bytesLess x6.Key x14.Key || x6.Key == x14.Key)) else (z3c x6 false))
noncomputable def y04:Option (Int):=
 some 0
noncomputable def y23 (l1:(List vo)):Option (Int):=
 if decide (50 < (l1.length:Int)) then some 2 else (if l1.length≤1000000000 then forL (fun (k:Nat) (x:vo) (s:Unit)=>y03 l1 k x) (fun (s:Unit)=>y04) 0 l1 () else none)
noncomputable def y0x (k3:Nat) (x6:vo) (sum2:Int):Option (Int ⊕ (Int)):=
 some (.inl (wr (sum2+x6.Weight)))
noncomputable def y0y (sum2:Int):Option (Int):=
 some sum2
noncomputable def y22 (l1:(List vo)):Option (Int):=
 if l1.length≤1000000000 then forL (fun (k:Nat) (x:vo) (s:Int)=>y0x k x s) (fun (s:Int)=>y0y s) 0 l1 0 else none
noncomputable def z3b (v39:Int) (v40:(List Int)):Option ((Int×(List Int)) ⊕ (((List Int)×(List Bs)) ⊕ ((List Bs)×Int))):=
 some (.inl (v39,v40))
noncomputable def y0z (k21:Nat) (x24:vo) (v19:Int) (l20:(List Int)):Option ((Int×(List Int)) ⊕ (((List Int)×(List Bs)) ⊕ ((List Bs)×Int))):=
 (l20[k21]?).bind fun (x32:Int)=>((l20.set k21 (wr (x32+x24.Weight)))[k21]?).bind fun (x34:Int)=>(at? (l20.set k21 (wr (x32+x24.Weight))) v19).bind fun (x36:Int)=>if decide (x36 < x34) then (z3b (k21:Int) (l20.set k21 (wr (x32+x24.Weight)))) else (z3b v19 (l20.set k21 (wr (x32+x24.Weight))))
noncomputable def y01 (v1:(List vo)) (r11:(Int)) (l14:(List Bs)) (v19:Int) (l20:(List Int)):Option (((List Int)×(List Bs)) ⊕ ((List Bs)×Int)):=
 (at? l20 v19).bind fun (x25:Int)=>(at? v1 v19).bind fun (x27:vo)=>if l14.length+1≤1000000000 then (some (.inl ((l20.set v19.toNat (wr (x25 - r11))),(l14++[x27.Key])))) else none
noncomputable def y00 (v1:(List vo)) (r11:(Int)) (k15:Nat) (l13:(List Int)) (l14:(List Bs)):Option (((List Int)×(List Bs)) ⊕ ((List Bs)×Int)):=
 if v1.length≤1000000000 then forL (fun (k:Nat) (x:vo) (s:Int×(List Int))=>y0z k x s.1 s.2) (fun (s:Int×(List Int))=>y01 v1 r11 l14 s.1 s.2) 0 v1 (0,l13) else none
noncomputable def y02 (l13:(List Int)) (l14:(List Bs)):Option ((List Bs)×Int):=
 some (l14,0)
noncomputable def z87 (v1:(List vo)) (v2:Int):Option ((List Bs)×Int):=
 (y23 v1).bind fun r3=>if decide (r3≠0) then (some ([],r3)) else ((ub v2 0 2000).bind fun r6=>if r6 then (some ([],1)) else (if decide ((v1.length:Int)=0) then (some ([],8)) else (if v1.length≤1000000000 then ((y22 v1).bind fun r11=>if v2≤1000000000 then rng (fun (k:Nat) (s:(List Int)×(List Bs))=>y00 v1 r11 k s.1 s.2) (fun (s:(List Int)×(List Bs))=>y02 s.1 s.2) v2.toNat 0 ((List.replicate v1.length 0),[]) else none) else none)))
noncomputable def z1f (v14:Bool):Option (Bool):=
 some v14
noncomputable def z5j (c1:Int):Option (Bool):=
 (z5l c1).bind fun r2=>if r2 then (z1f true) else ((z1y c1).bind fun r6=>if r6 then (z1f true) else ((Yk [33,35,36,37,38,39,42,43,45,46,94,95,96,124,126] c1).bind fun r10=>z1f (decide (0≤r10))))
noncomputable def z84 (k2:Nat) (x5:UInt8):Option (Unit ⊕ (Bool)):=
 (z5j (x5.toNat:Int)).bind fun r8=>if !r8 then (some (.inr false)) else (some (.inl ()))
noncomputable def y20 (s1:Bs):Option (Bool):=
 some ((decide (s1≠[])) && (decide ((s1.length:Int)≤100)))
noncomputable def Yo (s1:Bs):Option (Bool):=
 if s1.length≤1000000000 then forL (fun (k:Nat) (x:UInt8) (s:Unit)=>z84 k x) (fun (s:Unit)=>y20 s1) 0 s1 () else none
noncomputable def z30 (s14:Bs):Option (Bs):=
 some s14
noncomputable def Qr (s3:Bs) (v10:Bool):Option (Bs ⊕ (Bs)):=
 if v10 then ((sub? s3 0 (wr ((s3.length:Int) - 1))).bind fun (l12:Bs)=>some (.inl l12)) else (Option.map .inr (z30 s3))
noncomputable def z3z (c2:Int) (s3:Bs):Option (Bs ⊕ (Bs)):=
 if decide (0 < (s3.length:Int)) then ((at? s3 (wr ((s3.length:Int) - 1))).bind fun (x7:UInt8)=>Qr s3 (decide ((x7.toNat:Int)=c2))) else (Qr s3 false)
noncomputable def Yj (s1:Bs) (c2:Int):Option (Bs):=
 iter (fun (s:Bs)=>z3z c2 s) s1
noncomputable def z33 (s14:Bs):Option (Bs):=
 some s14
noncomputable def Qs (s3:Bs) (v10:Bool):Option (Bs ⊕ (Bs)):=
 if v10 then ((sub? s3 1 (s3.length:Int)).bind fun (l12:Bs)=>some (.inl l12)) else (Option.map .inr (z33 s3))
noncomputable def z32 (c2:Int) (s3:Bs):Option (Bs ⊕ (Bs)):=
 if decide (0 < (s3.length:Int)) then ((s3[0]?).bind fun (x7:UInt8)=>Qs s3 (decide ((x7.toNat:Int)=c2))) else (Qs s3 false)
noncomputable def Wm (s1:Bs) (c2:Int):Option (Bs):=
 iter (fun (s:Bs)=>z32 c2 s) s1
noncomputable def z06 (s1:Bs) (cutset2:Bs) (v9:Bool):Option (Bs):=
 if v9 then ((cutset2[0]?).bind fun (x11:UInt8)=>(Yj s1 (x11.toNat:Int)).bind fun r13=>(Wm r13 (x11.toNat:Int)).bind fun r15=>some r15) else none
noncomputable def Wn (s1:Bs) (cutset2:Bs):Option (Bs):=
 if ((decide (s1=[])) || (decide (cutset2=[]))) then some s1 else (if decide ((cutset2.length:Int)=1) then ((cutset2[0]?).bind fun (x6:UInt8)=>z06 s1 cutset2 (decide ((x6.toNat:Int) < 128))) else (z06 s1 cutset2 false))
noncomputable def Wj (v12:Bool):Option (Bool):=
 some v12
noncomputable def Wx (s1:Bs):Option (Bool):=
 if decide ((s1.length:Int)≤2000) then ((Wv s1 32 126).bind fun r4=>if r4 then ((Wn s1 [32]).bind fun r8=>Wj (decide (r8=s1))) else (Wj false)) else (Wj false)
noncomputable def z85 (k3:Nat) (x6:yj):Option (Unit ⊕ (Int)):=
 (Yo x6.Name).bind fun r9=>if !r9 then (some (.inr 5)) else ((Wx x6.Value).bind fun r12=>if !r12 then (some (.inr 3)) else (some (.inl ())))
noncomputable def z86:Option (Int):=
 some 0
noncomputable def z10 (l1:(List yj)):Option (Int):=
 if decide (50 < (l1.length:Int)) then some 2 else (if l1.length≤1000000000 then forL (fun (k:Nat) (x:yj) (s:Unit)=>z85 k x) (fun (s:Unit)=>z86) 0 l1 () else none)
noncomputable def z5m (a1:kl):Option (Int):=
 (ub a1.Status 100 599).bind fun r2=>if r2 then some 1 else ((z10 a1.Headers).bind fun r5=>if decide (r5≠0) then some r5 else (if decide (20000 < (a1.Body.length:Int)) then some 2 else some 0))
noncomputable def z52  : Option ((List Bs)×(List Int)):=
 some ([[109,97,120,45,97,103,101],[115,45,109,97,120,97,103,101],[115,116,97,108,101,45,119,104,105,108,101,45,114,101,118,97,108,105,100,97,116,101],[115,116,97,108,101,45,105,102,45,101,114,114,111,114],[109,97,120,45,115,116,97,108,101],[109,105,110,45,102,114,101,115,104]],([6,7,8,9,10,11]:List Int))
noncomputable def z5k (h1:yj) (name2:Bs):Option (Bool):=
 (z9b h1.Name name2).bind fun r3=>some r3
noncomputable def z1j (out14:(List Bs)):Option ((List Bs) ⊕ ((List Bs))):=
 some (.inl out14)
noncomputable def Wi (name2:Bs) (k4:Nat) (x7:yj) (l3:(List Bs)):Option ((List Bs) ⊕ ((List Bs))):=
 (z5k x7 name2).bind fun r10=>if r10 then (if l3.length+1≤1000000000 then (z1j (l3++[x7.Value])) else none) else (z1j l3)
noncomputable def z81 (l3:(List Bs)):Option ((List Bs)):=
 some l3
noncomputable def kh (l1:(List yj)) (name2:Bs):Option ((List Bs)):=
 if l1.length≤1000000000 then forL (fun (k:Nat) (x:yj) (s:(List Bs))=>Wi name2 k x s) (fun (s:(List Bs))=>z81 s) 0 l1 [] else none
noncomputable def Zb (out22:(List Bs)):Option ((List Bs) ⊕ ((List Bs) ⊕ ((List Bs)))):=
 some (.inl out22)
noncomputable def xz (k12:Nat) (x15:Bs) (l11:(List Bs)):Option ((List Bs) ⊕ ((List Bs) ⊕ ((List Bs)))):=
 (Wn x15 [32]).bind fun r18=>if decide (r18≠[]) then (if l11.length+1≤1000000000 then (Zb (l11++[r18])) else none) else (Zb l11)
noncomputable def z1k (l11:(List Bs)):Option ((List Bs) ⊕ ((List Bs))):=
 some (.inl l11)
noncomputable def Za (k3:Nat) (x6:Bs) (l2:(List Bs)):Option ((List Bs) ⊕ ((List Bs))):=
 (jj x6 [44]).bind fun r9=>if r9.length≤1000000000 then forL (fun (k:Nat) (x:Bs) (s:(List Bs))=>xz k x s) (fun (s:(List Bs))=>z1k s) 0 r9 l2 else none
noncomputable def z1l (l2:(List Bs)):Option ((List Bs)):=
 some l2
noncomputable def Yn (values1:(List Bs)):Option ((List Bs)):=
 if values1.length≤1000000000 then forL (fun (k:Nat) (x:Bs) (s:(List Bs))=>Za k x s) (fun (s:(List Bs))=>z1l s) 0 values1 [] else none
noncomputable def z6q (v29:Int):Option (Int×Int):=
 some (v29,0)
noncomputable def z6r (v14:Bool) (r15:(Int×Int)) (v24:Int):Option (Int×Int):=
 if (0:Int)≤(IntKind.wrap .u64 (wr (v24 - 1))) then (if ((!v14) && (decide ((shl_ .u64 1 (IntKind.wrap .u64 (wr (v24 - 1))))≤r15.1))) then (some (IntKind.wrap .i64 (IntKind.wrap .u64 ((shl_ .u64 1 (IntKind.wrap .u64 (wr (v24 - 1)))) - 1)),1)) else (if (v14 && (decide ((shl_ .u64 1 (IntKind.wrap .u64 (wr (v24 - 1)))) < r15.1))) then (some ((wr (-(IntKind.wrap .i64 (shl_ .u64 1 (IntKind.wrap .u64 (wr (v24 - 1))))))),1)) else (if v14 then (z6q (wr (-(IntKind.wrap .i64 r15.1)))) else (z6q (IntKind.wrap .i64 r15.1))))) else none
noncomputable def z6s (v3:Int) (v14:Bool) (r15:(Int×Int)) (v21:Bool):Option (Int×Int):=
 if v21 then (some (0,r15.2)) else (if decide (v3=0) then (z6r v14 r15 64) else (z6r v14 r15 v3))
noncomputable def z2m (v2:Int) (v3:Int) (v13:Bs) (v14:Bool):Option (Int×Int):=
 (z9k v13 v2 v3).bind fun r15=>if decide (r15.2≠0) then (if (0:Int)≤r15.2∧r15.2≤(4:Int) then (z6s v3 v14 r15 (decide (r15.2≠1))) else none) else (z6s v3 v14 r15 false)
noncomputable def y3h (v1:Bs) (v2:Int) (v3:Int):Option (Int×Int):=
 if decide (v1=[]) then (some (0,2)) else ((v1[0]?).bind fun (x5:UInt8)=>if decide ((x5.toNat:Int)=43) then ((sub? v1 1 (v1.length:Int)).bind fun (l8:Bs)=>z2m v2 v3 l8 false) else (if decide ((x5.toNat:Int)=45) then ((sub? v1 1 (v1.length:Int)).bind fun (l11:Bs)=>z2m v2 v3 l11 true) else (z2m v2 v3 v1 false)))
noncomputable def z2n (k15:Nat) (x18:Int) (v14:Int):Option (Int ⊕ (Int×Int)):=
 if decide (9 < (IntKind.wrap .u8 (x18 - 48))) then (some (.inr (0,2))) else (some (.inl (wr ((wr (v14 * 10))+(IntKind.wrap .i64 (IntKind.wrap .u8 (x18 - 48)))))))
noncomputable def z0f (v23:Int):Option (Int×Int):=
 some (v23,0)
noncomputable def z0i (v1:Bs) (v14:Int):Option (Int×Int):=
 (v1[0]?).bind fun (x19:UInt8)=>if decide ((x19.toNat:Int)=45) then (if -9223372036854775807≤v14∧v14≤9223372036854775807 then (z0f (-v14)) else none) else (z0f v14)
noncomputable def z0h (v1:Bs) (v13:Bs):Option (Int×Int):=
 if (qn v13).length≤1000000000 then forL (fun (k:Nat) (x:Int) (s:Int)=>z2n k x s) (fun (s:Int)=>z0i v1 s) 0 (qn v13) 0 else none
noncomputable def z0g (v1:Bs) (v8:Bool):Option (Int×Int):=
 if v8 then ((sub? v1 1 (v1.length:Int)).bind fun (l10:Bs)=>if decide ((l10.length:Int) < 1) then (some (0,2)) else (z0h v1 l10)) else (z0h v1 v1)
noncomputable def Wz (v1:Bs):Option (Int×Int):=
 if ((false && ((decide (0 < (v1.length:Int))) && (decide ((v1.length:Int) < 10)))) || (true && ((decide (0 < (v1.length:Int))) && (decide ((v1.length:Int) < 19))))) then ((v1[0]?).bind fun (x3:UInt8)=>if decide ((x3.toNat:Int)=45) then (z0g v1 true) else (z0g v1 (decide ((x3.toNat:Int)=43)))) else ((y3h v1 10 0).bind fun r27=>some (r27.1,r27.2))
noncomputable def Ym (s1:Bs):Option (Int×Int):=
 (Wz s1).bind fun r2=>if decide (r2.2≠0) then ((y26 [65,116,111,105] s1 0 0 r2.2).bind fun r5=>some (r2.1,r5)) else (some (r2.1,0))
noncomputable def z6b (v29:Bool):Option (Unit ⊕ (Int×Bool)):=
 if v29 then (some (.inr (0,false))) else (some (.inl ()))
noncomputable def z6a (i18:Nat) (x21:UInt8):Option (Unit ⊕ (Int×Bool)):=
 if decide ((x21.toNat:Int) < 48) then (z6b true) else (z6b (decide (57 < (x21.toNat:Int))))
noncomputable def z2e (s1:Bs):Option (Int×Bool):=
 (Ym s1).bind fun r22=>some (r22.1,decide (r22.2=0))
noncomputable def ki (s1:Bs) (r3:(Bs)) (v16:Bool):Option (Int×Bool):=
 if v16 then (some (0,false)) else (if r3.length≤1000000000 then forL (fun (k:Nat) (x:UInt8) (s:Unit)=>z6a k x) (fun (s:Unit)=>z2e s1) 0 r3 () else none)
noncomputable def xf (s1:Bs) (most2:Int):Option (Int×Bool):=
 (z9a s1 [45]).bind fun r3=>if decide (r3=[]) then (ki s1 r3 true) else (if decide (most2 < (r3.length:Int)) then (ki s1 r3 true) else ((r3[0]?).bind fun (x9:UInt8)=>if decide ((x9.toNat:Int)=48) then (ki s1 r3 (decide (s1≠[48]))) else (ki s1 r3 false)))
noncomputable def z5p (s1:Bs):Option (Int×Bool):=
 (xf s1 9).bind fun r2=>some (r2.1,r2.2)
noncomputable def z23 (r2:(Int×Bool)) (v9:Bool):Option (Int×Bool):=
 some (r2.1,v9)
noncomputable def z50 (s1:Bs):Option (Int×Bool):=
 (z5p s1).bind fun r2=>if r2.2 then ((ub r2.1 0 100000000).bind fun r6=>z23 r2 (!r6)) else (z23 r2 false)
noncomputable def z9n  : Option ((List Bs)×(List Int)):=
 some ([[110,111,45,115,116,111,114,101],[110,111,45,99,97,99,104,101],[112,114,105,118,97,116,101],[112,117,98,108,105,99],[109,117,115,116,45,114,101,118,97,108,105,100,97,116,101],[111,110,108,121,45,105,102,45,99,97,99,104,101,100]],([0,1,2,3,4,5]:List Int))
noncomputable def y2b (v2:Bs) (k3:Nat) (x6:Bs):Option (Unit ⊕ (Int)):=
 if decide (v2=x6) then (some (.inr (k3:Int))) else (some (.inl ()))
noncomputable def y2c:Option (Int):=
 some (-1)
noncomputable def Wr (s1:(List Bs)) (v2:Bs):Option (Int):=
 if s1.length≤1000000000 then forL (fun (k:Nat) (x:Bs) (s:Unit)=>y2b v2 k x) (fun (s:Unit)=>y2c) 0 s1 () else none
noncomputable def z2z (r3:(Bs×Bs×Bool)) (c41:Bool) (c42:Bool) (c43:Bool) (c44:Bool) (c45:Bool) (c46:Bool) (c47:Int) (c48:Int) (c49:Int) (c50:Int) (c51:Int) (c52:Int):Option (Bool×yr):=
 some (r3.2.2,(yr.mk c41 c42 c43 c44 c45 c46 c47 c48 c49 c50 c51 c52))
noncomputable def z2y (s1:yr) (r3:(Bs×Bs×Bool)) (r5:(Int×Bool)) (r22:((List Bs)×(List Int))) (r24:(Int)) (v34:Bool):Option (Bool×yr):=
 if v34 then ((at? r22.2 r24).bind fun (x36:Int)=>if Zq x36=true then ((some (z8e s1 x36 r5.1)).bind fun (c39:yr)=>z2z r3 c39.NoStore c39.NoCache c39.Private c39.Public c39.Must c39.Only c39.MaxAge c39.Shared c39.Stale c39.OnError c39.MaxStale c39.MinFresh) else none) else (z2z r3 s1.NoStore s1.NoCache s1.Private s1.Public s1.Must s1.Only s1.MaxAge s1.Shared s1.Stale s1.OnError s1.MaxStale s1.MinFresh)
noncomputable def z2b (s1:yr) (v2:Bs):Option (Bool×yr):=
 (Zi v2 [61]).bind fun r3=>(z50 r3.2.1).bind fun r5=>(Yo r3.1).bind fun r7=>if ((!r7) || (r3.2.2 && (!r5.2))) then (some (false,s1)) else ((Zg r3.1).bind fun r10=>(z9n).bind fun r12=>(Wr r12.1 r10).bind fun r14=>if decide (0≤r14) then ((at? r12.2 r14).bind fun (x17:Int)=>if y0o x17=true then ((some (y18 s1 x17 true)).bind fun (c20:yr)=>some (!r3.2.2,c20)) else none) else ((z52).bind fun r22=>(Wr r22.1 r10).bind fun r24=>if decide (r24 < 0) then (some (true,s1)) else ((at? r22.2 r24).bind fun (x27:Int)=>if Zq x27=true then (if decide ((Yx s1 x27)=(-1)) then (z2y s1 r3 r5 r22 r24 true) else (if Zq x27=true then (z2y s1 r3 r5 r22 r24 (decide (r5.1 < (Yx s1 x27)))) else none)) else none)))
noncomputable def z0m (k36:Nat) (x39:Bs) (c24:Bool) (c25:Bool) (c26:Int) (c27:Int) (c28:Bool) (c29:Bool) (c30:Bool) (c31:Bool) (c32:Int) (c33:Int) (c34:Int) (c35:Int):Option ((Bool×Bool×Int×Int×Bool×Bool×Bool×Bool×Int×Int×Int×Int) ⊕ (yr×Int)):=
 (z2b (yr.mk c24 c25 c28 c29 c30 c31 c32 c33 c34 c35 c26 c27) x39).bind fun r42=>if !r42.1 then (some (.inr ((yr.mk false false false false false false 0 0 0 0 0 0),9))) else (some (.inl (r42.2.NoStore,r42.2.NoCache,r42.2.MaxStale,r42.2.MinFresh,r42.2.Private,r42.2.Public,r42.2.Must,r42.2.Only,r42.2.MaxAge,r42.2.Shared,r42.2.Stale,r42.2.OnError)))
noncomputable def y46 (c24:Bool) (c25:Bool) (c26:Int) (c27:Int) (c28:Bool) (c29:Bool) (c30:Bool) (c31:Bool) (c32:Int) (c33:Int) (c34:Int) (c35:Int):Option (yr×Int):=
 some ((yr.mk c24 c25 c28 c29 c30 c31 c32 c33 c34 c35 c26 c27),0)
noncomputable def y45 (k16:Nat) (x19:Int) (c4:Bool) (c5:Bool) (c6:Int) (c7:Int) (c8:Bool) (c9:Bool) (c10:Bool) (c11:Bool) (c12:Int) (c13:Int) (c14:Int) (c15:Int):Option ((Bool×Bool×Int×Int×Bool×Bool×Bool×Bool×Int×Int×Int×Int) ⊕ (yr×Int)):=
 if Zq x19=true then ((some (z8e (yr.mk c4 c5 c8 c9 c10 c11 c12 c13 c14 c15 c6 c7) x19 (-1))).bind fun (c48:yr)=>some (.inl (c48.NoStore,c48.NoCache,c48.MaxStale,c48.MinFresh,c48.Private,c48.Public,c48.Must,c48.Only,c48.MaxAge,c48.Shared,c48.Stale,c48.OnError))) else none
noncomputable def z60 (l1:(List yj)) (c4:Bool) (c5:Bool) (c6:Int) (c7:Int) (c8:Bool) (c9:Bool) (c10:Bool) (c11:Bool) (c12:Int) (c13:Int) (c14:Int) (c15:Int):Option (yr×Int):=
 (kh l1 [99,97,99,104,101,45,99,111,110,116,114,111,108]).bind fun r20=>(Yn r20).bind fun r22=>if r22.length≤1000000000 then forL (fun (k:Nat) (x:Bs) (s:Bool×Bool×Int×Int×Bool×Bool×Bool×Bool×Int×Int×Int×Int)=>z0m k x s.1 s.2.1 s.2.2.1 s.2.2.2.1 s.2.2.2.2.1 s.2.2.2.2.2.1 s.2.2.2.2.2.2.1 s.2.2.2.2.2.2.2.1 s.2.2.2.2.2.2.2.2.1 s.2.2.2.2.2.2.2.2.2.1 s.2.2.2.2.2.2.2.2.2.2.1 s.2.2.2.2.2.2.2.2.2.2.2) (fun (s:Bool×Bool×Int×Int×Bool×Bool×Bool×Bool×Int×Int×Int×Int)=>y46 s.1 s.2.1 s.2.2.1 s.2.2.2.1 s.2.2.2.2.1 s.2.2.2.2.2.1 s.2.2.2.2.2.2.1 s.2.2.2.2.2.2.2.1 s.2.2.2.2.2.2.2.2.1 s.2.2.2.2.2.2.2.2.2.1 s.2.2.2.2.2.2.2.2.2.2.1 s.2.2.2.2.2.2.2.2.2.2.2) 0 r22 (c4,c5,c6,c7,c8,c9,c10,c11,c12,c13,c14,c15) else none
noncomputable def z2c (l1:(List yj)):Option (yr×Int):=
 (z52).bind fun r2=>if r2.2.length≤1000000000 then forL (fun (k:Nat) (x:Int) (s:Bool×Bool×Int×Int×Bool×Bool×Bool×Bool×Int×Int×Int×Int)=>y45 k x s.1 s.2.1 s.2.2.1 s.2.2.2.1 s.2.2.2.2.1 s.2.2.2.2.2.1 s.2.2.2.2.2.2.1 s.2.2.2.2.2.2.2.1 s.2.2.2.2.2.2.2.2.1 s.2.2.2.2.2.2.2.2.2.1 s.2.2.2.2.2.2.2.2.2.2.1 s.2.2.2.2.2.2.2.2.2.2.2) (fun (s:Bool×Bool×Int×Int×Bool×Bool×Bool×Bool×Int×Int×Int×Int)=>z60 l1 s.1 s.2.1 s.2.2.1 s.2.2.2.1 s.2.2.2.2.1 s.2.2.2.2.2.1 s.2.2.2.2.2.2.1 s.2.2.2.2.2.2.2.1 s.2.2.2.2.2.2.2.2.1 s.2.2.2.2.2.2.2.2.2.1 s.2.2.2.2.2.2.2.2.2.2.1 s.2.2.2.2.2.2.2.2.2.2.2) 0 r2.2 (false,false,0,0,false,false,false,false,0,0,0,0) else none
noncomputable def Ws (s1:(List Bs)) (v2:Bs):Option (Bool):=
 (Wr s1 v2).bind fun r3=>some (decide (0≤r3))
noncomputable def y44 (k7:Nat) (l6:(List Bs)):Option ((List Bs) ⊕ ((List Bs)×Bool×Int)):=
 (l6[k7]?).bind fun (x17:Bs)=>(Yo x17).bind fun r19=>if !r19 then (some (.inr ([],false,9))) else ((Zg x17).bind fun r22=>some (.inl (l6.set k7 r22)))
noncomputable def z6z (l6:(List Bs)):Option ((List Bs)×Bool×Int):=
 (Ws l6 [42]).bind fun r10=>if r10 then (some ([],true,0)) else ((Wy l6).bind fun r13=>if decide (10 < (r13.length:Int)) then (some ([],false,2)) else (some (r13,false,0)))
noncomputable def z5z (a1:kl):Option ((List Bs)×Bool×Int):=
 (kh a1.Headers [118,97,114,121]).bind fun r2=>(Yn r2).bind fun r4=>if r4.length≤1000000000 then rng (fun (k:Nat) (s:(List Bs))=>y44 k s) (fun (s:(List Bs))=>z6z s) r4.length 0 r4 else none
noncomputable def z55 (c1:yr):Option (Int):=
 if c1.NoCache then some 0 else (if decide (c1.Shared≠(-1)) then (some (wr (c1.Shared * 1000))) else (if decide (c1.MaxAge≠(-1)) then (some (wr (c1.MaxAge * 1000))) else some 0))
noncomputable def z56 (a1:kl):Option (Int×Int):=
 (z5m a1).bind fun r2=>if decide (r2≠0) then (some (0,r2)) else ((z2c a1.Headers).bind fun r5=>if decide (r5.2≠0) then (some (0,r5.2)) else ((z5z a1).bind fun r8=>if decide (r8.2.2≠0) then (some (0,r8.2.2)) else ((z55 r5.1).bind fun r11=>some (r11,0))))
noncomputable def Qh (x6:Int) (k11:Nat) (l10:(List Int)):Option ((List Int) ⊕ ((Bs×(List Int)) ⊕ (Bs))):=
 if (0:Int)≤(wr (18 - (wr (6 * (k11:Int))))) then ((at? [65,66,67,68,69,70,71,72,73,74,75,76,77,78,79,80,81,82,83,84,85,86,87,88,89,90,97,98,99,100,101,102,103,104,105,106,107,108,109,110,111,112,113,114,115,116,117,118,119,120,121,122,48,49,50,51,52,53,54,55,56,57,45,95] (and_ .i64 (shr_ .i64 x6 (wr (18 - (wr (6 * (k11:Int)))))) 63)).bind fun (x18:UInt8)=>if l10.length+1≤1000000000 then (some (.inl (l10++[(x18.toNat:Int)]))) else none) else none
noncomputable def Qj (s2:Bs) (l10:(List Int)):Option ((Bs×(List Int)) ⊕ (Bs)):=
 (sub? s2 (min 3 (s2.length:Int)) (s2.length:Int)).bind fun (l14:Bs)=>some (.inl (l14,l10))
noncomputable def Qi (x25:Int):Option (Int ⊕ ((Bs×(List Int)) ⊕ (Bs))):=
 some (.inl x25)
noncomputable def uy (s2:Bs) (k7:Nat) (x6:Int):Option (Int ⊕ ((Bs×(List Int)) ⊕ (Bs))):=
 if decide ((k7:Int) < (min 3 (s2.length:Int))) then ((s2[k7]?).bind fun (x23:UInt8)=>Qi (or_ .i64 (shl_ .i64 x6 8) (IntKind.wrap .i64 (x23.toNat:Int)))) else (Qi (shl_ .i64 x6 8))
noncomputable def z3r (s2:Bs) (l3:(List Int)) (x6:Int):Option ((Bs×(List Int)) ⊕ (Bs)):=
 if (wr ((min 3 (s2.length:Int))+1))≤1000000000 then rng (fun (k:Nat) (s:(List Int))=>Qh x6 k s) (fun (s:(List Int))=>Qj s2 s) ((wr ((min 3 (s2.length:Int))+1)).toNat) 0 l3 else none
noncomputable def z3q (out26:(List Int)):Option (Bs):=
 some (strN out26)
noncomputable def jh (s2:Bs) (l3:(List Int)):Option ((Bs×(List Int)) ⊕ (Bs)):=
 if decide (0 < (s2.length:Int)) then (if 3≤1000000000 then rng (fun (k:Nat) (s:Int)=>uy s2 k s) (fun (s:Int)=>z3r s2 l3 s) 3 0 0 else none) else (Option.map .inr (z3q l3))
noncomputable def Ze (s1:Bs):Option (Bs):=
 iter (fun (s:Bs×(List Int))=>jh s.1 s.2) (s1,[])
noncomputable def un (v27:Bool):Option (Bool):=
 some v27
noncomputable def z12  : Option (Bool):=
 (z1z [47,97,47,46,46,47,98]).bind fun r1=>(z87 ([(vo.mk [97] 1)]) 2).bind fun r3=>(z56 (kl.mk 200 ([(yj.mk [99,97,99,104,101,45,99,111,110,116,114,111,108] [109,97,120,45,97,103,101,61,50])]) [])).bind fun r5=>if decide (r1.2=0) then (if decide (r1.1=[47,98]) then (if decide (r3.2=0) then (if decide ((r3.1.length:Int)=2) then (if decide (r5.2=0) then (if decide (r5.1=2000) then ((Ze [97,98]).bind fun r19=>un (decide (r19=[89,87,73]))) else (un false)) else (un false)) else (un false)) else (un false)) else (un false)) else (un false)
noncomputable def y2f (p1:yh→Option (Bool)) (k2:Nat) (x5:yh):Option (Unit ⊕ (Int)):=
 (p1 x5).bind fun r8=>if r8 then (some (.inr (k2:Int))) else (some (.inl ()))
noncomputable def y2g:Option (Int):=
 some (-1)
noncomputable def z1v (s1:(List yh)) (p1:yh→Option (Bool)):Option (Int):=
 if s1.length≤1000000000 then forL (fun (k:Nat) (x:yh) (s:Unit)=>y2f p1 k x) (fun (s:Unit)=>y2g) 0 s1 () else none
noncomputable def z9g (s1:(List yh)) (p1:yh→Option (Bool)):Option (Bool):=
 (z1v s1 p1).bind fun r2=>some (decide (0≤r2))
noncomputable def z4p (o1:yh) (c2:yh):Option (Bool):=
 some (decide (o1.Id=c2.Id))
noncomputable def z0v (v13:Bool):Option (Unit ⊕ (Int)):=
 if v13 then (some (.inr 3)) else (some (.inl ()))
noncomputable def z7v (k2:Nat) (x5:UInt8):Option (Unit ⊕ (Int)):=
 if decide ((x5.toNat:Int) < 33) then (z0v true) else (z0v (decide (126 < (x5.toNat:Int))))
noncomputable def z7w (s1:Bs):Option (Int):=
 if decide (s1=[]) then some 3 else (if decide (100 < (s1.length:Int)) then some 2 else some 0)
noncomputable def z4s (s1:Bs):Option (Int):=
 if s1.length≤1000000000 then forL (fun (k:Nat) (x:UInt8) (s:Unit)=>z7v k x) (fun (s:Unit)=>z7w s1) 0 s1 () else none
noncomputable def Zz (v24:Bool):Option (Int):=
 if v24 then some 7 else some 0
noncomputable def z4q (l1:(List yh)) (i2:Int):Option (Int):=
 (at? l1 i2).bind fun (x3:yh)=>(jf x3.Id).bind fun r5=>if !r5 then some 5 else ((sub? l1 0 i2).bind fun (l8:(List yh))=>(z9g l8 (fun (a0:yh)=>z4p a0 x3)).bind fun r10=>if r10 then some 6 else ((z4s x3.Secret).bind fun r13=>if decide (r13≠0) then some r13 else ((ub x3.From 0 x3.To).bind fun r16=>if ((r16 || (decide (x3.Until < x3.To))) || (decide (345686400000 < x3.Until))) then some 1 else (if decide (0 < i2) then ((at? l1 (wr (i2 - 1))).bind fun (x21:yh)=>Zz (decide (x3.From < x21.From))) else (Zz false)))))
noncomputable def z71 (l1:(List yh)) (k3:Nat) (x6:yh):Option (Unit ⊕ (Int)):=
 (z4q l1 (k3:Int)).bind fun r9=>if decide (r9≠0) then (some (.inr r9)) else (some (.inl ()))
noncomputable def y1w:Option (Int):=
 some 0
noncomputable def Yh (l1:(List yh)):Option (Int):=
 if decide (50 < (l1.length:Int)) then some 2 else (if l1.length≤1000000000 then forL (fun (k:Nat) (x:yh) (s:Unit)=>z71 l1 k x) (fun (s:Unit)=>y1w) 0 l1 () else none)
noncomputable def xv (v1:zm) (v29:Bs):Option (Bs×Int):=
 (z5g v1.From).bind fun r30=>if [116,105,109,101,32].length+r30.length≤1000000000 then (if ([116,105,109,101,32]++r30).length+[32].length≤1000000000 then ((z5g v1.To).bind fun r34=>if (([116,105,109,101,32]++r30)++[32]).length+r34.length≤1000000000 then (if ((([116,105,109,101,32]++r30)++[32])++r34).length+[10].length≤1000000000 then (if v29.length+(((([116,105,109,101,32]++r30)++[32])++r34)++[10]).length≤1000000000 then (if decide (4000 < ((v29++(((([116,105,109,101,32]++r30)++[32])++r34)++[10])).length:Int)) then (some ([],2)) else (some ((v29++(((([116,105,109,101,32]++r30)++[32])++r34)++[10])),0))) else none) else none) else none) else none) else none
noncomputable def Qo (v1:zm) (v22:Bs):Option (Bs×Int):=
 if decide (0 < (v1.Scopes.length:Int)) then ((ua v1.Scopes [32]).bind fun r24=>if [109,97,121,32].length+r24.length≤1000000000 then (if ([109,97,121,32]++r24).length+[10].length≤1000000000 then (if v22.length+(([109,97,121,32]++r24)++[10]).length≤1000000000 then (xv v1 (v22++(([109,97,121,32]++r24)++[10]))) else none) else none) else none) else (xv v1 v22)
noncomputable def Yb (v1:zm) (v15:Bs):Option (Bs×Int):=
 if decide (0 < (v1.Audience.length:Int)) then ((ua v1.Audience [32]).bind fun r17=>if [102,111,114,32].length+r17.length≤1000000000 then (if ([102,111,114,32]++r17).length+[10].length≤1000000000 then (if v15.length+(([102,111,114,32]++r17)++[10]).length≤1000000000 then (Qo v1 (v15++(([102,111,114,32]++r17)++[10]))) else none) else none) else none) else (Qo v1 v15)
noncomputable def Yg (v1:zm):Option (Bs×Int):=
 (Zf v1).bind fun r2=>if decide (r2≠0) then (some ([],r2)) else (if [105,100,32].length+v1.Id.length≤1000000000 then (if ([105,100,32]++v1.Id).length+[10,115,117,98,106,101,99,116,32].length≤1000000000 then (if (([105,100,32]++v1.Id)++[10,115,117,98,106,101,99,116,32]).length+v1.Subject.length≤1000000000 then (if ((([105,100,32]++v1.Id)++[10,115,117,98,106,101,99,116,32])++v1.Subject).length+[10,105,115,115,117,101,114,32].length≤1000000000 then (if (((([105,100,32]++v1.Id)++[10,115,117,98,106,101,99,116,32])++v1.Subject)++[10,105,115,115,117,101,114,32]).length+v1.Issuer.length≤1000000000 then (if ((((([105,100,32]++v1.Id)++[10,115,117,98,106,101,99,116,32])++v1.Subject)++[10,105,115,115,117,101,114,32])++v1.Issuer).length+[10].length≤1000000000 then (if decide (v1.Parent≠[]) then (if [112,97,114,101,110,116,32].length+v1.Parent.length≤1000000000 then (if ([112,97,114,101,110,116,32]++v1.Parent).length+[10].length≤1000000000 then (if (((((([105,100,32]++v1.Id)++[10,115,117,98,106,101,99,116,32])++v1.Subject)++[10,105,115,115,117,101,114,32])++v1.Issuer)++[10]).length+(([112,97,114,101,110,116,32]++v1.Parent)++[10]).length≤1000000000 then (Yb v1 ((((((([105,100,32]++v1.Id)++[10,115,117,98,106,101,99,116,32])++v1.Subject)++[10,105,115,115,117,101,114,32])++v1.Issuer)++[10])++(([112,97,114,101,110,116,32]++v1.Parent)++[10]))) else none) else none) else none) else (Yb v1 (((((([105,100,32]++v1.Id)++[10,115,117,98,106,101,99,116,32])++v1.Subject)++[10,105,115,115,117,101,114,32])++v1.Issuer)++[10]))) else none) else none) else none) else none) else none) else none)
noncomputable def z11 (n1:Int):Option (Bool):=
 some ((decide (0≤n1)) && (decide (n1 < 345686400000)))
noncomputable def z1p (v1:Int):Option (Int):=
 (z11 v1).bind fun r2=>if !r2 then some 1 else some 0
noncomputable def y1r (v2:Int) (k5:Nat) (x6:yh):Option (Unit ⊕ (yh×Bool)):=
 if ((decide (x6.From≤v2)) && (decide (v2 < x6.To))) then (some (.inr (x6,true))) else (some (.inl ()))
noncomputable def y1s:Option (yh×Bool):=
 some ((yh.mk [] [] 0 0 0),false)
noncomputable def z4r (l1:(List yh)) (v2:Int):Option (yh×Bool):=
 if l1.length≤1000000000 then back (fun (k:Nat) (x:yh) (s:Unit)=>y1r v2 k x) (fun (s:Unit)=>y1s) l1 l1.length () else none
noncomputable def y3g (i1:Int):Option (Bs):=
 if decide (i1 < 10) then ((sub? [48,49,50,51,52,53,54,55,56,57,97,98,99,100,101,102,103,104,105,106,107,108,109,110,111,112,113,114,115,116,117,118,119,120,121,122] i1 (wr (i1+1))).bind fun (l3:Bs)=>some l3) else ((sub? [48,48,48,49,48,50,48,51,48,52,48,53,48,54,48,55,48,56,48,57,49,48,49,49,49,50,49,51,49,52,49,53,49,54,49,55,49,56,49,57,50,48,50,49,50,50,50,51,50,52,50,53,50,54,50,55,50,56,50,57,51,48,51,49,51,50,51,51,51,52,51,53,51,54,51,55,51,56,51,57,52,48,52,49,52,50,52,51,52,52,52,53,52,54,52,55,52,56,52,57,53,48,53,49,53,50,53,51,53,52,53,53,53,54,53,55,53,56,53,57,54,48,54,49,54,50,54,51,54,52,54,53,54,54,54,55,54,56,54,57,55,48,55,49,55,50,55,51,55,52,55,53,55,54,55,55,55,56,55,57,56,48,56,49,56,50,56,51,56,52,56,53,56,54,56,55,56,56,56,57,57,48,57,49,57,50,57,51,57,52,57,53,57,54,57,55,57,56,57,57] (wr (i1 * 2)) (wr ((wr (i1 * 2))+2))).bind fun (l5:Bs)=>some l5)
noncomputable def z5s (x1:Int):Option (Bool):=
 some (decide ((and_ .i64 x1 (wr (x1 - 1)))=0))
noncomputable def z0d (v5:Bool) (v52:Int) (l53:(List Int)):Option ((List Int)×Bs):=
 if v5 then none else (if l53.length=65 then (if (0:Int)≤v52∧v52≤(65:Int) then (some ([],(strN (l53.drop v52.toNat)))) else none) else none)
noncomputable def z0e (v4:Bool) (v5:Bool) (v47:Int) (l48:(List Int)):Option ((List Int)×Bs):=
 if v4 then (if (0:Int)≤(wr (v47 - 1))∧(wr (v47 - 1)) < (65:Int) then (if (wr (v47 - 1)).toNat < l48.length then (z0d v5 (wr (v47 - 1)) (l48.set (wr (v47 - 1)).toNat 45)) else none) else none) else (z0d v5 v47 l48)
noncomputable def Yu (v4:Bool) (v5:Bool) (v23:Int) (v24:Int) (l25:(List Int)):Option ((List Int)×Bs):=
 (at? [48,49,50,51,52,53,54,55,56,57,97,98,99,100,101,102,103,104,105,106,107,108,109,110,111,112,113,114,115,116,117,118,119,120,121,122] v23).bind fun (x26:UInt8)=>if (0:Int)≤(wr (v24 - 1))∧(wr (v24 - 1)) < (65:Int) then (if (wr (v24 - 1)).toNat < l25.length then (z0e v4 v5 (wr (v24 - 1)) (l25.set (wr (v24 - 1)).toNat (x26.toNat:Int))) else none) else none
noncomputable def z6h (v3:Int) (v4:Bool) (v5:Bool) (r11:(Int)) (v13:Int) (v14:Int) (l15:(List Int)):Option ((Int×Int×(List Int)) ⊕ ((List Int)×Bs)):=
 if decide ((IntKind.wrap .u64 v3)≤v13) then ((at? [48,49,50,51,52,53,54,55,56,57,97,98,99,100,101,102,103,104,105,106,107,108,109,110,111,112,113,114,115,116,117,118,119,120,121,122] (and_ .u64 v13 (IntKind.wrap .u64 ((IntKind.wrap .u64 v3) - 1)))).bind fun (x18:UInt8)=>if (0:Int)≤(wr (v14 - 1))∧(wr (v14 - 1)) < (65:Int) then (if (wr (v14 - 1)).toNat < l15.length then (if (0:Int)≤(IntKind.wrap .u64 r11) then (some (.inl ((shr_ .u64 v13 (IntKind.wrap .u64 r11)),wr (v14 - 1),(l15.set (wr (v14 - 1)).toNat (x18.toNat:Int))))) else none) else none) else none) else (Option.map .inr (Yu v4 v5 v13 v14 l15))
noncomputable def z96 (v4:Bool) (v5:Bool) (v40:Int) (v41:Int) (l42:(List Int)):Option ((List Int)×Bs):=
 (at? [48,49,50,51,52,53,54,55,56,57,97,98,99,100,101,102,103,104,105,106,107,108,109,110,111,112,113,114,115,116,117,118,119,120,121,122] v40).bind fun (x43:UInt8)=>if (0:Int)≤(wr (v41 - 1))∧(wr (v41 - 1)) < (65:Int) then (if (wr (v41 - 1)).toNat < l42.length then (z0e v4 v5 (wr (v41 - 1)) (l42.set (wr (v41 - 1)).toNat (x43.toNat:Int))) else none) else none
noncomputable def y4i (v3:Int) (v4:Bool) (v5:Bool) (v30:Int) (v31:Int) (l32:(List Int)):Option ((Int×Int×(List Int)) ⊕ ((List Int)×Bs)):=
 if decide ((IntKind.wrap .u64 v3)≤v30) then (if (IntKind.wrap .u64 v3)≠0 then ((at? [48,49,50,51,52,53,54,55,56,57,97,98,99,100,101,102,103,104,105,106,107,108,109,110,111,112,113,114,115,116,117,118,119,120,121,122] (IntKind.wrap .u64 (v30 - (IntKind.wrap .u64 ((IntKind.wrap .u64 (Int.tdiv v30 (IntKind.wrap .u64 v3))) * (IntKind.wrap .u64 v3)))))).bind fun (x36:UInt8)=>if (0:Int)≤(wr (v31 - 1))∧(wr (v31 - 1)) < (65:Int) then (if (wr (v31 - 1)).toNat < l32.length then (some (.inl ((IntKind.wrap .u64 (Int.tdiv v30 (IntKind.wrap .u64 v3))),wr (v31 - 1),(l32.set (wr (v31 - 1)).toNat (x36.toNat:Int))))) else none) else none) else none) else (Option.map .inr (z96 v4 v5 v30 v31 l32))
noncomputable def z2k (v2:Int) (v3:Int) (v4:Bool) (v5:Bool):Option ((List Int)×Bs):=
 (z5s v3).bind fun r8=>if r8 then ((z2d (IntKind.wrap .u64 v3)).bind fun r11=>iter (fun (s:Int×Int×(List Int))=>z6h v3 v4 v5 r11 s.1 s.2.1 s.2.2) (v2,65,(List.replicate 65 0))) else (iter (fun (s:Int×Int×(List Int))=>y4i v3 v4 v5 s.1 s.2.1 s.2.2) (v2,65,(List.replicate 65 0)))
noncomputable def z5t (v1:(List Int)) (v2:Int) (v3:Int) (v4:Bool) (v5:Bool):Option ((List Int)×Bs):=
 if (((decide (v3 < 2)) || (decide (v3=10))) || (decide (36 < v3))) then none else (if v4 then none else (z2k v2 v3 v4 v5))
noncomputable def z5u (i1:Int) (base2:Int):Option (Bs):=
 if decide (base2=10) then (if decide (i1 < 100) then ((y3g (IntKind.wrap .i64 i1)).bind fun r5=>some r5) else none) else ((z5t ([]:(List Int)) i1 base2 false false).bind fun r7=>some r7.2)
noncomputable def Yl (i1:Int) (base2:Int):Option (Bs):=
 (z5u i1 base2).bind fun r3=>some r3
noncomputable def z7t (k9:Nat) (h8:Int):Option (Int ⊕ (Bs)):=
 some (.inl (IntKind.wrap .u64 ((xor_ .u64 h8 (shr_ .u64 h8 29)) * 13787848793156543929)))
noncomputable def z7u (h8:Int):Option (Bs):=
 (Yl h8 16).bind fun r12=>(Zh [48] (wr (16 - (r12.length:Int)))).bind fun r14=>if r14.length+r12.length≤1000000000 then (some (r14++r12)) else none
noncomputable def z7s (k21:Nat) (x24:UInt8) (h20:Int):Option (Int ⊕ (Int ⊕ (Bs))):=
 some (.inl (IntKind.wrap .u64 ((xor_ .u64 h20 (IntKind.wrap .u64 (x24.toNat:Int))) * 1099511628211)))
noncomputable def y1q (h20:Int):Option (Int ⊕ (Bs)):=
 some (.inl h20)
noncomputable def Qe (k4:Nat) (x7:Bs) (h3:Int):Option (Int ⊕ (Bs)):=
 if x7.length≤1000000000 then forL (fun (k:Nat) (x:UInt8) (s:Int)=>z7s k x s) (fun (s:Int)=>y1q s) 0 x7 h3 else none
noncomputable def Zy (h3:Int):Option (Bs):=
 if 3≤1000000000 then rng (fun (k:Nat) (s:Int)=>z7t k s) (fun (s:Int)=>z7u s) 3 0 h3 else none
noncomputable def kz (secret1:Bs) (text2:Bs):Option (Bs):=
 if ([secret1,[0],text2,[0],secret1]).length≤1000000000 then forL (fun (k:Nat) (x:Bs) (s:Int)=>Qe k x s) (fun (s:Int)=>Zy s) 0 ([secret1,[0],text2,[0],secret1]) 14695981039346656037 else none
noncomputable def z47 (l1:(List yh)) (c2:zm) (v3:Int):Option (Bs×Int):=
 (Yh l1).bind fun r4=>if decide (r4≠0) then (some ([],r4)) else ((Yg (zm.mk c2.Id c2.Subject c2.Issuer c2.Parent c2.Audience c2.Scopes c2.From c2.To)).bind fun r7=>if decide (r7.2≠0) then (some ([],r7.2)) else ((z1p v3).bind fun r10=>if decide (r10≠0) then (some ([],r10)) else ((z4r l1 v3).bind fun r13=>if !r13.2 then (some ([],8)) else (if decide (r13.1.Until < c2.To) then (some ([],1)) else (if r13.1.Id.length+[46].length≤1000000000 then ((Ze r7.1).bind fun r18=>if (r13.1.Id++[46]).length+r18.length≤1000000000 then (if ((r13.1.Id++[46])++r18).length+[46].length≤1000000000 then ((kz r13.1.Secret ((r13.1.Id++[46])++r18)).bind fun r22=>if (((r13.1.Id++[46])++r18)++[46]).length+r22.length≤1000000000 then (some (((((r13.1.Id++[46])++r18)++[46])++r22),0)) else none) else none) else none) else none)))))
noncomputable def z03 (x6:qs) (v17:Bool):Option (Unit ⊕ (Int)):=
 if v17 then (some (.inr 7)) else ((ub x6.At 0 x6.Until).bind fun r19=>if (r19 || (decide (345686400000 < x6.Until))) then (some (.inr 1)) else (some (.inl ())))
noncomputable def z3t (l1:(List qs)) (k3:Nat) (x6:qs):Option (Unit ⊕ (Int)):=
 (jf x6.Id).bind fun r9=>if !r9 then (some (.inr 5)) else (if decide (0 < (k3:Int)) then ((at? l1 ((k3:Int) - 1)).bind fun (x14:qs)=>z03 x6 (Op.bytesLess x6.Id x14.Id || x6.Id == x14.Id)) else (z03 x6 false))
noncomputable def z74:Option (Int):=
 some 0
noncomputable def z5c (l1:(List qs)):Option (Int):=
 if decide (1000 < (l1.length:Int)) then some 2 else (if l1.length≤1000000000 then forL (fun (k:Nat) (x:qs) (s:Unit)=>z3t l1 k x) (fun (s:Unit)=>z74) 0 l1 () else none)
noncomputable def z0x (v7:Bool):Option (Bool):=
 some v7
noncomputable def z4v (s1:Bs):Option (Bool):=
 if decide ((s1.length:Int)=16) then ((z89 s1 [48,49,50,51,52,53,54,55,56,57,97,98,99,100,101,102]).bind fun r4=>z0x (decide (r4=[]))) else (z0x false)
noncomputable def xu (x3:vp) (v22:Bool):Option (Int):=
 if v22 then some 7 else ((Yi x3.Scopes).bind fun r24=>if decide (r24≠0) then some r24 else ((ub x3.From 0 x3.To).bind fun r27=>if (r27 || (decide (345686400000 < x3.To))) then some 1 else some 0))
noncomputable def z4x (v1:(List vp)) (v2:Int):Option (Int):=
 (at? v1 v2).bind fun (x3:vp)=>(jf x3.App).bind fun r5=>if !r5 then some 5 else ((z4v x3.Sum).bind fun r8=>if !r8 then some 3 else (if decide (0 < v2) then ((at? v1 (wr (v2 - 1))).bind fun (x13:vp)=>if Op.bytesLess x3.App x13.App then (xu x3 true) else (if decide (x3.App=x13.App) then (xu x3 (Op.bytesLess x3.Sum x13.Sum || x3.Sum == x13.Sum)) else (xu x3 false))) else (xu x3 false)))
noncomputable def z77 (l1:(List vp)) (k3:Nat) (x6:vp):Option (Unit ⊕ (Int)):=
 (z4x l1 (k3:Int)).bind fun r9=>if decide (r9≠0) then (some (.inr r9)) else (some (.inl ()))
noncomputable def y1y:Option (Int):=
 some 0
noncomputable def z5d (l1:(List vp)):Option (Int):=
 if decide (500 < (l1.length:Int)) then some 2 else (if l1.length≤1000000000 then forL (fun (k:Nat) (x:vp) (s:Unit)=>z77 l1 k x) (fun (s:Unit)=>y1y) 0 l1 () else none)
noncomputable def Qp (k1:vg) (v9:Bool):Option (Int):=
 if v9 then some 5 else ((Yh k1.Signers).bind fun r11=>if decide (r11≠0) then some r11 else ((z5c k1.Revoked).bind fun r14=>if decide (r14≠0) then some r14 else ((z5d k1.Holders).bind fun r17=>if decide (r17≠0) then some r17 else ((ub k1.Skew 0 600000).bind fun r20=>if r20 then some 1 else some 0))))
noncomputable def z1t (k1:vg):Option (Int):=
 (jf k1.Issuer).bind fun r2=>if !r2 then (Qp k1 true) else ((jf k1.Audience).bind fun r6=>Qp k1 (!r6))
noncomputable def Wg (v19:Bool):Option (Bool):=
 some v19
noncomputable def z1h (v32:Bool):Option (Unit ⊕ (Bool)):=
 if v32 then (some (.inr false)) else (some (.inl ()))
noncomputable def y2y (k2:Nat) (x5:UInt8):Option (Unit ⊕ (Bool)):=
 (z5l (x5.toNat:Int)).bind fun r22=>if !r22 then ((z1y (x5.toNat:Int)).bind fun r26=>if !r26 then (z1h (decide ((x5.toNat:Int)≠45))) else (z1h false)) else (z1h false)
noncomputable def y2z (s1:Bs):Option (Bool):=
 if decide (s1≠[]) then (if decide ((s1.length:Int)≤63) then ((s1[0]?).bind fun (x10:UInt8)=>if decide ((x10.toNat:Int)≠45) then ((at? s1 (wr ((s1.length:Int) - 1))).bind fun (x14:UInt8)=>Wg (decide ((x14.toNat:Int)≠45))) else (Wg false)) else (Wg false)) else (Wg false)
noncomputable def y3d (s1:Bs):Option (Bool):=
 if s1.length≤1000000000 then forL (fun (k:Nat) (x:UInt8) (s:Unit)=>y2y k x) (fun (s:Unit)=>y2z s1) 0 s1 () else none
noncomputable def Wh (v23:Bool):Option (Bool):=
 some v23
noncomputable def z8y (k6:Nat) (x9:Bs):Option (Unit ⊕ (Bool)):=
 (y3d x9).bind fun r26=>if !r26 then (some (.inr false)) else (some (.inl ()))
noncomputable def z8z (s1:Bs) (r2:(Bs×Bs×Bool)):Option (Bool):=
 (z5p r2.2.1).bind fun r10=>if decide ((s1.length:Int)≤255) then (if !r2.2.2 then (Wh true) else (if r10.2 then ((ub r10.1 1 65535).bind fun r18=>Wh (!r18)) else (Wh false))) else (Wh false)
noncomputable def z1x (s1:Bs):Option (Bool):=
 (Zi s1 [58]).bind fun r2=>(jj r2.1 [46]).bind fun r4=>if r4.length≤1000000000 then forL (fun (k:Nat) (x:Bs) (s:Unit)=>z8y k x) (fun (s:Unit)=>z8z s1 r2) 0 r4 () else none
noncomputable def We (v12:Bool):Option (Int):=
 if v12 then some 3 else some 0
noncomputable def z5h (s1:Bs):Option (Int):=
 if decide (1000 < (s1.length:Int)) then (We true) else ((Wv s1 33 126).bind fun r4=>if !r4 then (We true) else ((z9c s1 [35]).bind fun r8=>We r8))
noncomputable def Yf (r1:ud) (v25:Bool):Option (Int):=
 if v25 then some 3 else ((z10 r1.Headers).bind fun r27=>if decide (r27≠0) then some r27 else (if decide (20000 < (r1.Body.length:Int)) then some 2 else some 0))
noncomputable def z5n (r1:ud):Option (Int):=
 (z11 r1.At).bind fun r2=>if !r2 then some 1 else ((Yo r1.Method).bind fun r5=>if !r5 then some 5 else ((z1x r1.Host).bind fun r8=>if !r8 then (Yf r1 true) else ((Ww r1.Path).bind fun r12=>if decide (r12≠0) then (Yf r1 true) else ((z5h r1.Query).bind fun r16=>if decide (r16≠0) then (Yf r1 true) else ((Wx r1.From).bind fun r20=>Yf r1 (!r20))))))
noncomputable def z2h (v8:Bool):Option (Bool):=
 some v8
noncomputable def z9i (s1:Bs) (v2:Bs):Option (Bool):=
 if decide ((v2.length:Int)≤(s1.length:Int)) then ((sub? s1 0 (v2.length:Int)).bind fun (l5:Bs)=>z2h (decide (l5=v2))) else (z2h false)
noncomputable def z9j (s1:Bs) (v2:Bs):Option (Bs×Bool):=
 (z9i s1 v2).bind fun r3=>if !r3 then (some (s1,false)) else ((sub? s1 (v2.length:Int) (s1.length:Int)).bind fun (l6:Bs)=>some (l6,true))
noncomputable def z5e (s1:Bs) (v2:Bs):Option (Bs×Bool):=
 (z9j s1 v2).bind fun r3=>some (r3.1,r3.2)
noncomputable def z44 (x1:yh) (c2:(List Bs)):Option (Bool):=
 (c2[0]?).bind fun (x3:Bs)=>some (decide (x1.Id=x3))
noncomputable def Ql (x6:Int) (k11:Nat) (l10:(List Int)):Option ((List Int) ⊕ ((Bs×(List Int)) ⊕ (Bs×Int))):=
 if (0:Int)≤(wr (16 - (wr (8 * (k11:Int))))) then (if l10.length+1≤1000000000 then (some (.inl (l10++[IntKind.wrap .u8 (shr_ .i64 x6 (wr (16 - (wr (8 * (k11:Int))))))]))) else none) else none
noncomputable def Qn (rest2:Bs) (l10:(List Int)):Option ((Bs×(List Int)) ⊕ (Bs×Int)):=
 (sub? rest2 (min 4 (rest2.length:Int)) (rest2.length:Int)).bind fun (l14:Bs)=>some (.inl (l14,l10))
noncomputable def Ya (x26:Int):Option (Int ⊕ ((Bs×(List Int)) ⊕ (Bs×Int))):=
 some (.inl x26)
noncomputable def jz (rest2:Bs) (k7:Nat) (x6:Int):Option (Int ⊕ ((Bs×(List Int)) ⊕ (Bs×Int))):=
 if decide ((k7:Int) < (min 4 (rest2.length:Int))) then ((rest2[k7]?).bind fun (x21:UInt8)=>(Yk [65,66,67,68,69,70,71,72,73,74,75,76,77,78,79,80,81,82,83,84,85,86,87,88,89,90,97,98,99,100,101,102,103,104,105,106,107,108,109,110,111,112,113,114,115,116,117,118,119,120,121,122,48,49,50,51,52,53,54,55,56,57,45,95] (x21.toNat:Int)).bind fun r23=>if decide (r23 < 0) then (some (.inr (.inr ([],9)))) else (Ya (or_ .i64 (shl_ .i64 x6 6) r23))) else (Ya (shl_ .i64 x6 6))
noncomputable def z3s (rest2:Bs) (l3:(List Int)) (x6:Int):Option ((Bs×(List Int)) ⊕ (Bs×Int)):=
 if (wr ((min 4 (rest2.length:Int)) - 1))≤1000000000 then rng (fun (k:Nat) (s:(List Int))=>Ql x6 k s) (fun (s:(List Int))=>Qn rest2 s) ((wr ((min 4 (rest2.length:Int)) - 1)).toNat) 0 l3 else none
noncomputable def Qm (s1:Bs) (out27:(List Int)):Option (Bs×Int):=
 (Ze (strN out27)).bind fun r28=>if decide (r28≠s1) then (some ([],9)) else (some ((strN out27),0))
noncomputable def uz (s1:Bs) (rest2:Bs) (l3:(List Int)):Option ((Bs×(List Int)) ⊕ (Bs×Int)):=
 if decide (0 < (rest2.length:Int)) then (if 4≤1000000000 then rng (fun (k:Nat) (s:Int)=>jz rest2 k s) (fun (s:Int)=>z3s rest2 l3 s) 4 0 0 else none) else (Option.map .inr (Qm s1 l3))
noncomputable def z5a (s1:Bs):Option (Bs×Int):=
 iter (fun (s:Bs×(List Int))=>uz s1 s.1 s.2) (s1,[])
noncomputable def z5r (s1:Bs):Option ((List Bs)×Bool):=
 (jj s1 [10]).bind fun r2=>(at? r2 (wr ((r2.length:Int) - 1))).bind fun (x4:Bs)=>if decide (x4=[]) then ((sub? r2 0 (wr ((r2.length:Int) - 1))).bind fun (l7:(List Bs))=>some (l7,true)) else (some (r2,false))
noncomputable def z5o (s1:Bs):Option ((List Bs)×Bool):=
 (jj s1 [32]).bind fun r2=>(Ws r2 []).bind fun r4=>some (r2,!r4)
noncomputable def jt (s1:yl) (v2:Bs) (v3:Bool):Option ((List Bs)×yl):=
 if s1.bad_ then (some ([],s1)) else (if decide (s1.at_=(s1.lines_.length:Int)) then (some ([],(yl.mk s1.lines_ s1.ended_ s1.at_ v3))) else ((at? s1.lines_ s1.at_).bind fun (x6:Bs)=>(Zi x6 [32]).bind fun r8=>if decide (r8.1≠v2) then (some ([],(yl.mk s1.lines_ s1.ended_ s1.at_ v3))) else ((z5o r8.2.1).bind fun r11=>if ((!r11.2) || ((!s1.ended_) && (decide (s1.at_=(wr ((s1.lines_.length:Int) - 1)))))) then (some ([],(yl.mk s1.lines_ s1.ended_ s1.at_ true))) else (some (r11.1,(yl.mk s1.lines_ s1.ended_ (wr (s1.at_+1)) s1.bad_))))))
noncomputable def z0z (r4:((List Bs)×yl)) (c7:Int) (c8:Bool):Option (Bs×yl):=
 if decide ((r4.1.length:Int)≠1) then (some ([],(yl.mk r4.2.lines_ r4.2.ended_ c7 c8))) else ((r4.1[0]?).bind fun (x10:Bs)=>some (x10,(yl.mk r4.2.lines_ r4.2.ended_ c7 c8)))
noncomputable def jo (s1:yl) (word2:Bs) (must3:Bool):Option (Bs×yl):=
 (jt s1 word2 must3).bind fun r4=>if decide (1 < (r4.1.length:Int)) then (z0z r4 (wr (r4.2.at_ - 1)) true) else (z0z r4 r4.2.at_ r4.2.bad_)
noncomputable def Qf (r2:((List Bs)×yl)):Option (Int×Int×yl):=
 some (0,0,(yl.mk r2.2.lines_ r2.2.ended_ (wr (r2.2.at_ - 1)) true))
noncomputable def Zd (s1:yl):Option (Int×Int×yl):=
 (jt s1 [116,105,109,101] true).bind fun r2=>if r2.2.bad_ then (some (0,0,r2.2)) else (if decide ((r2.1.length:Int)=2) then ((r2.1[0]?).bind fun (x6:Bs)=>(xf x6 15).bind fun r8=>(r2.1[1]?).bind fun (x10:Bs)=>(xf x10 15).bind fun r12=>if (r8.2 && r12.2) then (some (r8.1,r12.1,r2.2)) else (Qf r2)) else (Qf r2))
noncomputable def z43 (v1:Bs):Option (zm×Int×Int):=
 if decide (4000 < (v1.length:Int)) then (some ((zm.mk [] [] [] [] [] [] 0 0),0,2)) else ((z5r v1).bind fun r3=>(jo (yl.mk r3.1 r3.2 0 false) [105,100] true).bind fun r5=>(jo r5.2 [115,117,98,106,101,99,116] true).bind fun r7=>(jo r7.2 [105,115,115,117,101,114] true).bind fun r9=>(jo r9.2 [112,97,114,101,110,116] false).bind fun r11=>(jt r11.2 [102,111,114] false).bind fun r13=>(jt r13.2 [109,97,121] false).bind fun r15=>(Zd r15.2).bind fun r17=>if (r17.2.2.bad_ || (decide (r17.2.2.at_ < (r17.2.2.lines_.length:Int)))) then (some ((zm.mk [] [] [] [] [] [] 0 0),r17.2.2.at_,9)) else ((Zf (zm.mk r5.1 r7.1 r9.1 r11.1 r13.1 r15.1 r17.1 r17.2.1)).bind fun r20=>if decide (r20≠0) then (some ((zm.mk [] [] [] [] [] [] 0 0),0,r20)) else (some ((zm.mk r5.1 r7.1 r9.1 r11.1 r13.1 r15.1 r17.1 r17.2.1),0,0))))
noncomputable def z01 (r40:(zm×Int×Int)) (v46:Bool):Option (zm×Int):=
 if v46 then (some ((zm.mk [] [] [] [] [] [] 0 0),11)) else (some (r40.1,0))
noncomputable def z02 (v1:(List yh)) (v3:Int) (r10:((List Bs))) (v19:Bool):Option (zm×Int):=
 if v19 then (some ((zm.mk [] [] [] [] [] [] 0 0),9)) else ((z1v v1 (fun (a0:yh)=>z44 a0 r10)).bind fun r21=>if decide (r21 < 0) then (some ((zm.mk [] [] [] [] [] [] 0 0),8)) else ((at? v1 r21).bind fun (x24:yh)=>(r10[0]?).bind fun (x26:Bs)=>if x26.length+[46].length≤1000000000 then ((r10[1]?).bind fun (x29:Bs)=>if (x26++[46]).length+x29.length≤1000000000 then ((kz x24.Secret ((x26++[46])++x29)).bind fun r32=>(r10[2]?).bind fun (x34:Bs)=>if decide (r32≠x34) then (some ((zm.mk [] [] [] [] [] [] 0 0),15)) else ((z5a x29).bind fun r37=>if decide (r37.2≠0) then (some ((zm.mk [] [] [] [] [] [] 0 0),r37.2)) else ((z43 r37.1).bind fun r40=>if decide (r40.2.2≠0) then (some ((zm.mk [] [] [] [] [] [] 0 0),r40.2.2)) else (if decide (v3 < x24.From) then (z01 r40 true) else (z01 r40 (decide (x24.Until≤v3))))))) else none) else none))
noncomputable def z45 (v1:(List yh)) (v2:Bs) (v3:Int):Option (zm×Int):=
 (Yh v1).bind fun r4=>if decide (r4≠0) then (some ((zm.mk [] [] [] [] [] [] 0 0),r4)) else ((z1p v3).bind fun r7=>if decide (r7≠0) then (some ((zm.mk [] [] [] [] [] [] 0 0),r7)) else ((jj v2 [46]).bind fun r10=>if decide ((r10.length:Int)≠3) then (z02 v1 v3 r10 true) else ((r10[0]?).bind fun (x14:Bs)=>(jf x14).bind fun r16=>z02 v1 v3 r10 (!r16))))
noncomputable def y2h (p1:qs→Option (Bool)) (k2:Nat) (x5:qs):Option (Unit ⊕ (Int)):=
 (p1 x5).bind fun r8=>if r8 then (some (.inr (k2:Int))) else (some (.inl ()))
noncomputable def y2i:Option (Int):=
 some (-1)
noncomputable def y28 (s1:(List qs)) (p1:qs→Option (Bool)):Option (Int):=
 if s1.length≤1000000000 then forL (fun (k:Nat) (x:qs) (s:Unit)=>y2h p1 k x) (fun (s:Unit)=>y2i) 0 s1 () else none
noncomputable def y29 (s1:(List qs)) (p1:qs→Option (Bool)):Option (Bool):=
 (y28 s1 p1).bind fun r2=>some (decide (0≤r2))
noncomputable def z88 (r1:qs) (c2:zm) (c3:Int):Option (Bool):=
 some (((decide (r1.Id=c2.Id)) || (decide (r1.Id=c2.Parent))) && (decide (r1.At≤c3)))
noncomputable def Qg (v1:vg) (v3:Int) (r4:(zm×Int)) (v15:Bool):Option (zm×Int):=
 if v15 then (some ((zm.mk [] [] [] [] [] [] 0 0),16)) else (if ((decide (v3 < (wr (r4.1.From - v1.Skew)))) || (decide ((wr (r4.1.To+v1.Skew))≤v3))) then (some ((zm.mk [] [] [] [] [] [] 0 0),11)) else ((y29 v1.Revoked (fun (a0:qs)=>z88 a0 r4.1 v3)).bind fun r18=>if r18 then (some ((zm.mk [] [] [] [] [] [] 0 0),13)) else (some (r4.1,0))))
noncomputable def z42 (v1:vg) (v2:Bs) (v3:Int):Option (zm×Int):=
 (z45 v1.Signers v2 v3).bind fun r4=>if decide (r4.2≠0) then (some ((zm.mk [] [] [] [] [] [] 0 0),r4.2)) else (if decide (r4.1.Issuer≠v1.Issuer) then (Qg v1 v3 r4 true) else (if decide (0 < (r4.1.Audience.length:Int)) then ((Ws r4.1.Audience v1.Audience).bind fun r11=>Qg v1 v3 r4 (!r11)) else (Qg v1 v3 r4 false)))
noncomputable def z1s (k1:vg) (value2:Bs) (v3:Int):Option (qg×Int):=
 (z5e value2 [66,101,97,114,101,114,32]).bind fun r4=>if ((!r4.2) || (decide (r4.1=[]))) then (some ((qg.mk 0 [] []),9)) else ((z42 k1 r4.1 v3).bind fun r7=>if decide (r7.2≠0) then (some ((qg.mk 0 [] []),r7.2)) else (some ((qg.mk 1 r7.1.Subject r7.1.Scopes),0)))
noncomputable def z00 (v24:Bool) (l25:(List Bs)) (c26:Int) (c27:Bs):Option ((Bool×(List Bs)×Int×Bs) ⊕ (qg×Int)):=
 some (.inl (v24,l25,c26,c27))
noncomputable def y1u (v3:Int) (r4:(Bs)) (k10:Nat) (x13:vp) (v6:Bool) (l7:(List Bs)) (c8:Int) (c9:Bs):Option ((Bool×(List Bs)×Int×Bs) ⊕ (qg×Int)):=
 if decide (x13.Sum≠r4) then (z00 v6 l7 c8 c9) else (if (((decide (x13.From≤v3)) && (decide (v3 < x13.To))) && ((decide (c8=0)) || (decide (c9=x13.App)))) then (if l7.length+x13.Scopes.length≤1000000000 then (z00 true (l7++x13.Scopes) 2 x13.App) else none) else (z00 true l7 c8 c9))
noncomputable def y1v (v6:Bool) (l7:(List Bs)) (c8:Int) (c9:Bs):Option (qg×Int):=
 if !v6 then (some ((qg.mk 0 [] []),8)) else (if decide (c8=0) then (some ((qg.mk 0 [] []),11)) else ((Wl l7).bind fun r16=>if decide (50 < (r16.length:Int)) then (some ((qg.mk 0 [] []),2)) else (some ((qg.mk c8 c9 r16),0))))
noncomputable def y24 (v1:vg) (v2:Bs) (v3:Int):Option (qg×Int):=
 (kz v1.Issuer v2).bind fun r4=>if v1.Holders.length≤1000000000 then forL (fun (k:Nat) (x:vp) (s:Bool×(List Bs)×Int×Bs)=>y1u v3 r4 k x s.1 s.2.1 s.2.2.1 s.2.2.2) (fun (s:Bool×(List Bs)×Int×Bs)=>y1v s.1 s.2.1 s.2.2.1 s.2.2.2) 0 v1.Holders (false,([]:List Bs),0,[]) else none
noncomputable def z1u (v1:vg) (v2:ud):Option (qg×Int):=
 (z1t v1).bind fun r3=>if decide (r3≠0) then (some ((qg.mk 0 [] []),r3)) else ((z5n v2).bind fun r6=>if decide (r6≠0) then (some ((qg.mk 0 [] []),r6)) else ((kh v2.Headers [97,117,116,104,111,114,105,122,97,116,105,111,110]).bind fun r9=>(kh v2.Headers [120,45,97,112,105,45,107,101,121]).bind fun r11=>if ((decide (1 < (r9.length:Int))) || (decide (1 < (r11.length:Int)))) then (some ((qg.mk 0 [] []),6)) else (if ((decide ((r9.length:Int)=1)) && (decide ((r11.length:Int)=1))) then (some ((qg.mk 0 [] []),13)) else (if decide ((r9.length:Int)=1) then ((r9[0]?).bind fun (x16:Bs)=>(z1s v1 x16 v2.At).bind fun r18=>some (r18.1,r18.2)) else (if decide ((r11.length:Int)=1) then ((r11[0]?).bind fun (x21:Bs)=>(y24 v1 x21 v2.At).bind fun r23=>some (r23.1,r23.2)) else (some ((qg.mk 0 [] []),0)))))))
noncomputable def z13 (x1:zm) (c2:vg) (c3:Int):Option (qg×Bool):=
 (z47 c2.Signers x1 5).bind fun r4=>if [66,101,97,114,101,114,32].length+r4.1.length≤1000000000 then ((z1u (vg.mk c2.Issuer c2.Audience c2.Signers c2.Revoked c2.Holders c2.Skew) (ud.mk c3 [71,69,84] [97,46,98] [47] [] [] ([(yj.mk [97,117,116,104,111,114,105,122,97,116,105,111,110] ([66,101,97,114,101,114,32]++r4.1))]) [])).bind fun r7=>some (r7.1,((decide (r4.2=0)) && (decide (r7.2=0))))) else none
noncomputable def z7y (k2:Nat) (x5:(List Bs)):Option (Unit ⊕ (Int)):=
 (Yi x5).bind fun r8=>if decide (r8≠0) then (some (.inr r8)) else (some (.inl ()))
noncomputable def z7z:Option (Int):=
 some 0
noncomputable def z41 (l1:(List (List Bs))):Option (Int):=
 if l1.length≤1000000000 then forL (fun (k:Nat) (x:(List Bs)) (s:Unit)=>z7y k x) (fun (s:Unit)=>z7z) 0 l1 () else none
noncomputable def z5b (v1:(List Bs)) (want2:(List Bs)):Option (Bool×Int):=
 (z41 [v1,want2]).bind fun r3=>if decide (r3≠0) then (some (false,r3)) else ((z1r v1 want2).bind fun r6=>some (r6,0))
noncomputable def uo (v44:Bool):Option (Bool):=
 some v44
noncomputable def z9l (v1:(List Int)):Option (Bool):=
 (z5y (qq.mk v1 0)).bind fun r2=>(z17 r2.2).bind fun r4=>(z48 (zm.mk r2.1.Id r2.1.Subject [103,97,116,101] [] [] r2.1.Scopes r2.1.From r2.1.To) [116,57] [98,111,116] r4.1 (jm.mk r2.1.From r2.1.To)).bind fun r6=>if decide (r6.2≠0) then ((z12 ).bind fun r9=>some r9) else ((z19 r4.2 0 (wr ((wr (r2.1.To - r2.1.From)) - 1))).bind fun r11=>(z13 (zm.mk r2.1.Id r2.1.Subject [103,97,116,101] [] [] r2.1.Scopes r2.1.From r2.1.To) (vg.mk [103,97,116,101] [115,104,111,112] ([(yh.mk [115,49] [111,110,101] 0 1000 2000)]) [] [] 0) (wr (r2.1.From+r11.1))).bind fun r13=>(z13 r6.1 (vg.mk [103,97,116,101] [115,104,111,112] ([(yh.mk [115,49] [111,110,101] 0 1000 2000)]) [] [] 0) (wr (r2.1.From+r11.1))).bind fun r15=>(z5b r13.1.Scopes r15.1.Scopes).bind fun r17=>if r13.2 then (if r15.2 then (if decide (r17.2=0) then (if r17.1 then (if decide (r13.1.Name=r2.1.Subject) then (if decide (r15.1.Name=[98,111,116]) then ((z1w r15.1.Scopes r6.1.Scopes).bind fun r31=>if r31 then ((z12 ).bind fun r35=>uo r35) else (uo false)) else (uo false)) else (uo false)) else (uo false)) else (uo false)) else (uo false)) else (uo false))
/- models of functions that this seat does not reach: for the plain texts alone -/
noncomputable def y96 (k5:Nat) (x8:UInt8) (h4:Int):Option (Int ⊕ (Int)):=
 some (.inl (IntKind.wrap .u64 ((xor_ .u64 h4 (IntKind.wrap .u64 (x8.toNat:Int))) * 1099511628211)))
noncomputable def y97 (h4:Int):Option (Int):=
 some h4
noncomputable def y8m (l1:(List Bs)):Option (Int):=
 (ua l1 [0]).bind fun r2=>if r2.length≤1000000000 then forL (fun (k:Nat) (x:UInt8) (s:Int)=>y96 k x s) (fun (s:Int)=>y97 s) 0 r2 14695981039346656037 else none
noncomputable def z16 (h1:Int):Option (Bs):=
 (Yl h1 16).bind fun r2=>(Zh [48] (wr (16 - (r2.length:Int)))).bind fun r4=>if r4.length+r2.length≤1000000000 then (some (r4++r2)) else none
noncomputable def z99 (k6:Nat) (h5:Int):Option (Int ⊕ (Bs)):=
 some (.inl (IntKind.wrap .u64 ((xor_ .u64 h5 (shr_ .u64 h5 29)) * 13787848793156543929)))
noncomputable def z0k (h5:Int):Option (Bs):=
 (z16 h5).bind fun r9=>some r9
noncomputable def z9m (secret1:Bs) (text2:Bs):Option (Bs):=
 (y8m [secret1,text2,secret1]).bind fun r3=>if 3≤1000000000 then rng (fun (k:Nat) (s:Int)=>z99 k s) (fun (s:Int)=>z0k s) 3 0 r3 else none
noncomputable def z15 (n1:Int) (low2:Int) (high3:Int):Option (Bool):=
 some ((decide (low2≤n1)) && (decide (n1≤high3)))
noncomputable def y95 (some2:Bs) (k3:Nat) (x6:UInt8):Option (Unit ⊕ (Bool)):=
 (Yk some2 (x6.toNat:Int)).bind fun r9=>if decide (r9 < 0) then (some (.inr false)) else (some (.inl ()))
noncomputable def w1i:Option (Bool):=
 some true
noncomputable def z14 (s1:Bs) (some2:Bs):Option (Bool):=
 if s1.length≤1000000000 then forL (fun (k:Nat) (x:UInt8) (s:Unit)=>y95 some2 k x) (fun (s:Unit)=>w1i) 0 s1 () else none
noncomputable def y0c (v16:Bool):Option (Bool):=
 some v16
noncomputable def y3k (s1:Bs):Option (Bool):=
 (z15 (s1.length:Int) 1 40).bind fun r2=>if r2 then ((sub? s1 0 1).bind fun (l6:Bs)=>(z14 l6 [97,98,99,100,101,102,103,104,105,106,107,108,109,110,111,112,113,114,115,116,117,118,119,120,121,122]).bind fun r8=>if r8 then ((z14 s1 [97,98,99,100,101,102,103,104,105,106,107,108,109,110,111,112,113,114,115,116,117,118,119,120,121,122,48,49,50,51,52,53,54,55,56,57,45,95]).bind fun r12=>y0c r12) else (y0c false)) else (y0c false)
noncomputable def y94 (v12:Bool):Option (Unit ⊕ (Bool)):=
 if v12 then (some (.inr false)) else (some (.inl ()))
noncomputable def w1g (low2:Int) (k3:Nat) (x6:UInt8):Option (Unit ⊕ (Bool)):=
 if decide ((x6.toNat:Int) < low2) then (y94 true) else (y94 (decide (126 < (x6.toNat:Int))))
noncomputable def w1h:Option (Bool):=
 some true
noncomputable def x7n (s1:Bs) (low2:Int):Option (Bool):=
 if s1.length≤1000000000 then forL (fun (k:Nat) (x:UInt8) (s:Unit)=>w1g low2 k x) (fun (s:Unit)=>w1h) 0 s1 () else none
noncomputable def y4p (k4:Nat) (x7:qs) (last3:Bs):Option (Bs ⊕ (Int)):=
 (y3k x7.Id).bind fun r10=>if !r10 then (some (.inr 5)) else (if (Op.bytesLess x7.Id last3 || x7.Id == last3) then (some (.inr 7)) else ((z15 x7.At 0 x7.Until).bind fun r14=>if ((!r14) || (decide (345686400000 < x7.Until))) then (some (.inr 1)) else (some (.inl x7.Id))))
noncomputable def y99 (last3:Bs):Option (Int):=
 some 0
noncomputable def y8o (l1:(List qs)):Option (Int):=
 if decide (1000 < (l1.length:Int)) then some 2 else (if l1.length≤1000000000 then forL (fun (k:Nat) (x:qs) (s:Bs)=>y4p k x s) (fun (s:Bs)=>y99 s) 0 l1 [] else none)
noncomputable def y4o (v9:Bool):Option (Bool):=
 some v9
noncomputable def y3j (s1:Bs):Option (Bool):=
 (z15 (s1.length:Int) 1 100).bind fun r2=>if r2 then ((z14 s1 [97,98,99,100,101,102,103,104,105,106,107,108,109,110,111,112,113,114,115,116,117,118,119,120,121,122,65,66,67,68,69,70,71,72,73,74,75,76,77,78,79,80,81,82,83,84,85,86,87,88,89,90,48,49,50,51,52,53,54,55,56,57,33,35,36,37,38,39,42,43,45,46,94,95,96,124,126]).bind fun r6=>y4o r6) else (y4o false)
noncomputable def y4q (v12:Bool):Option (Bool):=
 some v12
noncomputable def y8q (s1:Bs):Option (Bool):=
 if decide ((s1.length:Int)≤2000) then ((x7n s1 32).bind fun r4=>if r4 then ((Wn s1 [32]).bind fun r8=>y4q (decide (r8=s1))) else (y4q false)) else (y4q false)
noncomputable def x0a (k3:Nat) (x6:yj):Option (Unit ⊕ (Int)):=
 (y3j x6.Name).bind fun r9=>if !r9 then (some (.inr 5)) else ((y8q x6.Value).bind fun r12=>if !r12 then (some (.inr 3)) else (some (.inl ())))
noncomputable def x0b:Option (Int):=
 some 0
noncomputable def y8p (l1:(List yj)):Option (Int):=
 if decide (50 < (l1.length:Int)) then some 2 else (if l1.length≤1000000000 then forL (fun (k:Nat) (x:yj) (s:Unit)=>x0a k x) (fun (s:Unit)=>x0b) 0 l1 () else none)
noncomputable def y3i (a1:Bs) (b2:Bs):Option (Bool):=
 (Zg a1).bind fun r3=>(Zg b2).bind fun r5=>some (decide (r3=r5))
noncomputable def y4n (out14:(List Bs)):Option ((List Bs) ⊕ ((List Bs))):=
 some (.inl out14)
noncomputable def z6t (name2:Bs) (k4:Nat) (x7:yj) (l3:(List Bs)):Option ((List Bs) ⊕ ((List Bs))):=
 (y3i x7.Name name2).bind fun r10=>if r10 then (if l3.length+1≤1000000000 then (y4n (l3++[x7.Value])) else none) else (y4n l3)
noncomputable def y98 (l3:(List Bs)):Option ((List Bs)):=
 some l3
noncomputable def y8n (l1:(List yj)) (name2:Bs):Option ((List Bs)):=
 if l1.length≤1000000000 then forL (fun (k:Nat) (x:yj) (s:(List Bs))=>z6t name2 k x s) (fun (s:(List Bs))=>y98 s) 0 l1 [] else none
structure w3z where
 Name:Bs
 Value:Bs
structure w39 where
 Words:Bs
 Params:(List w3z)
 Quality:Int
structure w36 where
 s_:Bs
 i_:Int
 bad_:Bool
structure w38 where
 s_:Bs
noncomputable def y3l  : Option (Bool):=
 (z1z [47,97,47,46,46,47,98]).bind fun r1=>some ((decide (r1.2=0)) && (decide (r1.1=[47,98])))
structure w4a where
 Request:ud
 Response:kl
 At:Int
 Tags:(List Bs)
 Used:Int
structure w37 where
 c_:Int
 plain_:Bool
noncomputable def y3m  : Option (Bool):=
 (z56 (kl.mk 200 ([(yj.mk [99,97,99,104,101,45,99,111,110,116,114,111,108] [109,97,120,45,97,103,101,61,50])]) [])).bind fun r1=>some ((decide (r1.2=0)) && (decide (r1.1=2000)))
end Go.Proofs.YtbndlmnjeofkdadGreatDoor
