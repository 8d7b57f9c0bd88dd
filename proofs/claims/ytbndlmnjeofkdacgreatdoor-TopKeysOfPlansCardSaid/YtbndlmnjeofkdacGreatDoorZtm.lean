/- Plain models of functions. Printed by a program. -/
import Derived.Test.YtbndlmnjeofkdacGreatDoorMc
import Derived.Test.YtbndlmnjeofkdacGreatDoorMl
import Derived.Test.YtbndlmnjeofkdacGreatDoorRng
import Derived.Test.YtbndlmnjeofkdacGreatDoorMk
namespace Go.Proofs.YtbndlmnjeofkdacGreatDoor
set_option linter.unusedVariables false
set_option maxRecDepth 20000
structure zy where
 L:(List Int)
 at_:Int
structure yq where
 Key:Bs
 Scopes:(List Bs)
structure qw where
 From:Int
 Cents:Int
structure yj where
 Key:Bs
 Product:Bs
 Base:Int
 Free:Int
 Tiers:(List qw)
 Limit:Int
 Trial:Int
 Asked:Bool
structure yh where
 Products:(List yq)
 Plans:(List yj)
structure yd where
 Key:Bs
 Owner:Bs
structure zq where
 At:Int
 App:Bs
 Product:Bs
 Kind:Int
 Plan:Bs
structure zz where
 State:Int
 Plan:Bs
 Since:Int
 First:Int
structure yt where
 app_:Bs
 product_:Bs
structure jx where
 subs_:(List (yt×zz))
 asks_:(List (yt×Int))
structure vi where
 App:Bs
 Sum:Bs
 Scopes:(List Bs)
 From:Int
 To:Int
structure wh where
 Id:Bs
 Secret:Bs
 From:Int
 To:Int
 Until:Int
structure va where
 Id:Bs
 At:Int
 Until:Int
structure jm where
 Issuer:Bs
 Audience:Bs
 Signers:(List wh)
 Revoked:(List va)
 Holders:(List vi)
 Skew:Int
structure ql where
 Name:Bs
 Value:Bs
structure xl where
 At:Int
 Method:Bs
 Host:Bs
 Path:Bs
 Query:Bs
 From:Bs
 Headers:(List ql)
 Body:Bs
structure wn where
 By:Int
 Name:Bs
 Scopes:(List Bs)
structure qg where
 Id:Bs
 Subject:Bs
 Issuer:Bs
 Parent:Bs
 Audience:(List Bs)
 Scopes:(List Bs)
 From:Int
 To:Int
structure jg where
 lines_:(List Bs)
 ended_:Bool
 at_:Int
 bad_:Bool
structure jn where
 Key:Bs
 Weight:Int
structure xa where
 Status:Int
 Headers:(List ql)
 Body:Bs
structure qo where
 NoStore:Bool
 NoCache:Bool
 Private:Bool
 Public:Bool
 Must:Bool
 Only:Bool
 MaxAge:Int
 Shared:Int
 Stale:Int
 OnError:Int
 MaxStale:Int
 MinFresh:Int
def y53 (x:Int):Bool:=decide (x=0) || decide (x=1) || decide (x=2) || decide (x=3) || decide (x=4) || decide (x=5)
def y74 (c:qo) (x:Int) (y:Bool):qo:=if x=0 then qo.mk y c.NoCache c.Private c.Public c.Must c.Only c.MaxAge c.Shared c.Stale c.OnError c.MaxStale c.MinFresh else if x=1 then qo.mk c.NoStore y c.Private c.Public c.Must c.Only c.MaxAge c.Shared c.Stale c.OnError c.MaxStale c.MinFresh else if x=2 then qo.mk c.NoStore c.NoCache y c.Public c.Must c.Only c.MaxAge c.Shared c.Stale c.OnError c.MaxStale c.MinFresh else if x=3 then qo.mk c.NoStore c.NoCache c.Private y c.Must c.Only c.MaxAge c.Shared c.Stale c.OnError c.MaxStale c.MinFresh else if x=4 then qo.mk c.NoStore c.NoCache c.Private c.Public y c.Only c.MaxAge c.Shared c.Stale c.OnError c.MaxStale c.MinFresh else if x=5 then qo.mk c.NoStore c.NoCache c.Private c.Public c.Must y c.MaxAge c.Shared c.Stale c.OnError c.MaxStale c.MinFresh else c
def Qp (x:Int):Bool:=decide (x=6) || decide (x=7) || decide (x=8) || decide (x=9) || decide (x=10) || decide (x=11)
def z0b (c:qo) (x:Int):Int:=if x=6 then c.MaxAge else if x=7 then c.Shared else if x=8 then c.Stale else if x=9 then c.OnError else if x=10 then c.MaxStale else if x=11 then c.MinFresh else 0
def y2l (c:qo) (x:Int) (y:Int):qo:=if x=6 then qo.mk c.NoStore c.NoCache c.Private c.Public c.Must c.Only y c.Shared c.Stale c.OnError c.MaxStale c.MinFresh else if x=7 then qo.mk c.NoStore c.NoCache c.Private c.Public c.Must c.Only c.MaxAge y c.Stale c.OnError c.MaxStale c.MinFresh else if x=8 then qo.mk c.NoStore c.NoCache c.Private c.Public c.Must c.Only c.MaxAge c.Shared y c.OnError c.MaxStale c.MinFresh else if x=9 then qo.mk c.NoStore c.NoCache c.Private c.Public c.Must c.Only c.MaxAge c.Shared c.Stale y c.MaxStale c.MinFresh else if x=10 then qo.mk c.NoStore c.NoCache c.Private c.Public c.Must c.Only c.MaxAge c.Shared c.Stale c.OnError y c.MinFresh else if x=11 then qo.mk c.NoStore c.NoCache c.Private c.Public c.Must c.Only c.MaxAge c.Shared c.Stale c.OnError c.MaxStale y else c
noncomputable def z5z (x6:Int):Option (Int):=
 some x6
noncomputable def z13 (x1:Int) (n2:Int):Option (Int):=
 if decide (n2 < 1) then some 0 else (if n2≠0 then (if decide ((Int.tmod x1 n2) < 0) then (z5z (wr ((Int.tmod x1 n2)+n2))) else (z5z (Int.tmod x1 n2))) else none)
noncomputable def Zm (s1:zy) (n2:Int):Option (Int×zy):=
 if decide ((s1.L.length:Int)=0) then ((z13 (wr ((wr (s1.at_+1)) * 7919)) n2).bind fun r4=>some (r4,(zy.mk s1.L (wr (s1.at_+1))))) else (if (s1.L.length:Int)≠0 then (if ((0:Int)≤(wr ((wr (s1.at_+1)) - 1))∧(wr ((wr (s1.at_+1)) - 1))≤9223372036854775807)∧(0:Int) < (s1.L.length:Int) then ((at? s1.L (Int.tmod (wr ((wr (s1.at_+1)) - 1)) (s1.L.length:Int))).bind fun (x8:Int)=>(z13 x8 1073741824).bind fun r10=>(z13 (wr (r10+(wr (((wr ((wr (s1.at_+1)) - 1)) / (s1.L.length:Int)) * (wr (7919+(Int.tmod (wr ((wr (s1.at_+1)) - 1)) (s1.L.length:Int)))))))) n2).bind fun r12=>some (r12,(zy.mk s1.L (wr (s1.at_+1))))) else none) else none)
noncomputable def Ql (s1:zy) (low2:Int) (high3:Int):Option (Int×zy):=
 if decide (high3 < low2) then (some (low2,s1)) else ((Zm s1 (wr ((wr (high3 - low2))+1))).bind fun r5=>some (wr (low2+r5.1),r5.2))
noncomputable def xy (s1:zy) (l2:(List Bs)):Option (Bs×zy):=
 (Zm s1 (l2.length:Int)).bind fun r3=>(at? l2 r3.1).bind fun (x5:Bs)=>some (x5,r3.2)
noncomputable def y5i (k7:Nat) (c4:(List Int)) (c5:Int) (l6:(List Bs)):Option (((List Int)×Int×(List Bs)) ⊕ ((List Bs)×zy)):=
 (xy (zy.mk c4 c5) ([[97],[97,58,42],[97,58,98],[97,58,98,58,42],[97,58,98,58,99],[98],[98,58,42],[98,58,99],[42]])).bind fun r11=>if l6.length+1≤1000000000 then (some (.inl (r11.2.L,r11.2.at_,(l6++[r11.1])))) else none
noncomputable def y5j (c4:(List Int)) (c5:Int) (l6:(List Bs)):Option ((List Bs)×zy):=
 some (l6,(zy.mk c4 c5))
noncomputable def z9l (s1:zy):Option ((List Bs)×zy):=
 (Ql s1 0 4).bind fun r2=>if r2.1≤1000000000 then rng (fun (k:Nat) (s:(List Int)×Int×(List Bs))=>y5i k s.1 s.2.1 s.2.2) (fun (s:(List Int)×Int×(List Bs))=>y5j s.1 s.2.1 s.2.2) r2.1.toNat 0 (r2.2.L,r2.2.at_,[]) else none
noncomputable def Zn (s1:zy) (n2:Int):Option (Bool×zy):=
 (Zm s1 n2).bind fun r3=>some (decide (r3.1=0),r3.2)
noncomputable def ks (s1:zy) (l2:(List Int)):Option (Int×zy):=
 (Zm s1 (l2.length:Int)).bind fun r3=>(at? l2 r3.1).bind fun (x5:Int)=>some (x5,r3.2)
noncomputable def y5m (k34:Nat) (v30:Int) (l31:(List qw)) (c32:(List Int)) (c33:Int):Option ((Int×(List qw)×(List Int)×Int) ⊕ (((List yj)×(List Int)×Int) ⊕ (yh×zy))):=
 (ks (zy.mk c32 c33) [0,100,500,1500]).bind fun r39=>if l31.length+1≤1000000000 then ((ks r39.2 [1,9,100]).bind fun r42=>some (.inl (wr (v30+r42.1),(l31++[(qw.mk v30 r39.1)]),r42.2.L,r42.2.at_))) else none
noncomputable def z2i (c44:(List Int)) (c45:Int) (l46:(List yj)):Option (((List yj)×(List Int)×Int) ⊕ (yh×zy)):=
 some (.inl (l46,c44,c45))
noncomputable def y5o (l4:(List yj)) (x10:Bs) (r16:(Bs×zy)) (r18:(Int×zy)) (r20:(Int×zy)) (r22:(Int×zy)) (r24:(Int×zy)) (r26:(Bool×zy)) (v30:Int) (l31:(List qw)) (c32:(List Int)) (c33:Int):Option (((List yj)×(List Int)×Int) ⊕ (yh×zy)):=
 if l4.length+1≤1000000000 then (z2i c32 c33 (l4++[(yj.mk x10 r16.1 r18.1 r20.1 l31 r22.1 r24.1 r26.1)])) else none
noncomputable def y5n (k7:Nat) (x10:Bs) (l4:(List yj)) (c5:(List Int)) (c6:Int):Option (((List yj)×(List Int)×Int) ⊕ (yh×zy)):=
 (Zn (zy.mk c5 c6) 5).bind fun r13=>if r13.1 then (z2i r13.2.L r13.2.at_ l4) else ((xy r13.2 ([[115,104,111,112],[115,104,111,112],[109,97,112,115]])).bind fun r16=>(ks r16.2 [0,0,1000,3000,31]).bind fun r18=>(ks r18.2 [0,10,100]).bind fun r20=>(ks r20.2 [(-1),(-1),0,1000]).bind fun r22=>(ks r22.2 [0,0,1,2]).bind fun r24=>(Zn r24.2 2).bind fun r26=>(ks r26.2 [0,1,2,3]).bind fun r28=>if r28.1≤1000000000 then rng (fun (k:Nat) (s:Int×(List qw)×(List Int)×Int)=>y5m k s.1 s.2.1 s.2.2.1 s.2.2.2) (fun (s:Int×(List qw)×(List Int)×Int)=>y5o l4 x10 r16 r18 r20 r22 r24 r26 s.1 s.2.1 s.2.2.1 s.2.2.2) r28.1.toNat 0 (1,([]:List qw),r28.2.L,r28.2.at_) else none)
noncomputable def y5p (r2:((List Bs)×zy)) (l4:(List yj)) (c5:(List Int)) (c6:Int):Option (yh×zy):=
 some ((yh.mk ([(yq.mk [109,97,112,115] r2.1),(yq.mk [115,104,111,112] ([[111,114,100,101,114,115]]))]) l4),(zy.mk c5 c6))
noncomputable def z9n (s1:zy):Option (yh×zy):=
 (z9l s1).bind fun r2=>if ([[98,105,103],[102,114,101,101],[109,105,100],[115,109,97,108,108]]).length≤1000000000 then forL (fun (k:Nat) (x:Bs) (s:(List yj)×(List Int)×Int)=>y5n k x s.1 s.2.1 s.2.2) (fun (s:(List yj)×(List Int)×Int)=>y5p r2 s.1 s.2.1 s.2.2) 0 ([[98,105,103],[102,114,101,101],[109,105,100],[115,109,97,108,108]]) (([]:List yj),r2.2.L,r2.2.at_) else none
noncomputable def z12 (s1:zy):Option ((List yd)×zy):=
 (xy s1 ([[97,110,110],[98,111,98]])).bind fun r2=>(ks r2.2 [1,2,3,3]).bind fun r4=>(sub? ([(yd.mk [97,112,112,49] [97,110,110]),(yd.mk [97,112,112,50] r2.1),(yd.mk [97,112,112,51] [98,111,98])]) 0 r4.1).bind fun (l6:(List yd))=>some (l6,r4.2)
noncomputable def y2r (i4:Int) (data28:(List zq)):Option ((Int×(List zq)) ⊕ ((List zq))):=
 some (.inl (wr (i4+1),data28))
noncomputable def z7j (i4:Int) (j8:Int) (l9:(List zq)) (v20:Bool):Option ((Int×(List zq)) ⊕ ((Int×(List zq)) ⊕ ((List zq)))):=
 if v20 then ((at? l9 (wr (j8 - 1))).bind fun (x22:zq)=>(at? l9 j8).bind fun (x24:zq)=>(at? (l9.set j8.toNat x22) (wr (j8 - 1))).bind fun (x26:zq)=>some (.inl (wr (j8 - 1),((l9.set j8.toNat x22).set ((wr (j8 - 1)).toNat) x24)))) else (Option.map .inr (y2r i4 l9))
noncomputable def y79 (a2:Int) (p3:zq→zq→Option (Int)) (i4:Int) (j8:Int) (l9:(List zq)):Option ((Int×(List zq)) ⊕ ((Int×(List zq)) ⊕ ((List zq)))):=
 if decide (a2 < j8) then ((at? l9 j8).bind fun (x13:zq)=>(at? l9 (wr (j8 - 1))).bind fun (x15:zq)=>(p3 x13 x15).bind fun r17=>z7j i4 j8 l9 (decide (r17 < 0))) else (z7j i4 j8 l9 false)
noncomputable def y8a (a2:Int) (b3:Int) (p3:zq→zq→Option (Int)) (i4:Int) (l5:(List zq)):Option ((Int×(List zq)) ⊕ ((List zq))):=
 if decide (i4 < b3) then (iter (fun (s:Int×(List zq))=>y79 a2 p3 i4 s.1 s.2) (i4,l5)) else (some (.inr l5))
noncomputable def y3z (data1:(List zq)) (a2:Int) (b3:Int) (p3:zq→zq→Option (Int)):Option ((List zq)):=
 iter (fun (s:Int×(List zq))=>y8a a2 b3 p3 s.1 s.2) (wr (a2+1),data1)
noncomputable def y2o (blockSize16:Int):Option (Int ⊕ ((List zq))):=
 some (.inl (wr (blockSize16 * 2)))
noncomputable def y2p (n2:Int) (blockSize16:Int) (a23:Int):Option (Int ⊕ ((List zq))):=
 if decide ((wr (a23+blockSize16)) < n2) then none else (y2o blockSize16)
noncomputable def y76 (n2:Int) (blockSize16:Int) (a19:Int) (b20:Int):Option ((Int×Int) ⊕ (Int ⊕ ((List zq)))):=
 if decide (b20≤n2) then none else (Option.map .inr (y2p n2 blockSize16 a19))
noncomputable def y77 (n2:Int) (r13:((List zq))) (blockSize16:Int):Option (Int ⊕ ((List zq))):=
 if decide (blockSize16 < n2) then (iter (fun (s:Int×Int)=>y76 n2 blockSize16 s.1 s.2) (0,wr (2 * blockSize16))) else (some (.inr r13))
noncomputable def y2q (n2:Int) (p2:zq→zq→Option (Int)) (a11:Int) (data12:(List zq)):Option ((List zq)):=
 (y3z data12 a11 n2 p2).bind fun r13=>if r13.length=data12.length then (iter (fun (s:Int)=>y77 n2 r13 s) 20) else none
noncomputable def y78 (n2:Int) (p2:zq→zq→Option (Int)) (a3:Int) (b4:Int) (l5:(List zq)):Option ((Int×Int×(List zq)) ⊕ ((List zq))):=
 if decide (b4≤n2) then ((y3z l5 a3 b4 p2).bind fun r8=>if r8.length=l5.length then (some (.inl (b4,wr (b4+20),r8))) else none) else (Option.map .inr (y2q n2 p2 a3 l5))
noncomputable def y3y (data1:(List zq)) (n2:Int) (p2:zq→zq→Option (Int)):Option ((List zq)):=
 iter (fun (s:Int×Int×(List zq))=>y78 n2 p2 s.1 s.2.1 s.2.2) (0,20,data1)
noncomputable def z4j (x1:(List zq)) (p1:zq→zq→Option (Int)):Option ((List zq)):=
 (y3y x1 (x1.length:Int) p1).bind fun r2=>if r2.length=x1.length then some r2 else none
noncomputable def z9c (n1:Int):Option (Int):=
 if decide (n1 < 0) then (some (-1)) else (if decide (0 < n1) then some 1 else some 0)
noncomputable def z9p (x1:Bs):Option (Bool):=
 some (decide (x1≠x1))
noncomputable def z9r (x1:Bs) (y2:Bs):Option (Int):=
 (z9p x1).bind fun r3=>(z9p y2).bind fun r5=>if r3 then (if r5 then some 0 else (some (-1))) else (if r5 then some 1 else (if Op.bytesLess x1 y2 then (some (-1)) else (if (!(Op.bytesLess x1 y2 || x1 == y2)) then some 1 else some 0)))
noncomputable def y2t (s2:(List Bs)) (k3:Nat) (x6:Bs):Option (Unit ⊕ (Int)):=
 if decide ((s2.length:Int)≤(k3:Int)) then (some (.inr 1)) else ((s2[k3]?).bind fun (x11:Bs)=>(z9r x6 x11).bind fun r13=>if decide (r13≠0) then (some (.inr r13)) else (some (.inl ())))
noncomputable def y2u (s1:(List Bs)) (s2:(List Bs)):Option (Int):=
 if decide ((s1.length:Int) < (s2.length:Int)) then (some (-1)) else some 0
noncomputable def z4l (s1:(List Bs)) (s2:(List Bs)):Option (Int):=
 if s1.length≤1000000000 then forL (fun (k:Nat) (x:Bs) (s:Unit)=>y2t s2 k x) (fun (s:Unit)=>y2u s1 s2) 0 s1 () else none
noncomputable def Yg (a1:zq) (b2:zq):Option (Int):=
 if decide (a1.At≠b2.At) then ((z9c (wr (a1.At - b2.At))).bind fun r4=>some r4) else ((z4l [a1.App,a1.Product] [b2.App,b2.Product]).bind fun r6=>some r6)
noncomputable def z7l (v15:Int) (v28:Int) (v29:(List zq)):Option ((Int×Int×(List zq)) ⊕ (Int ⊕ ((List zq)))):=
 some (.inl (v28,wr (v15+1),v29))
noncomputable def y2v (v30:Int) (v31:(List zq)):Option (Int ⊕ ((List zq))):=
 if (0:Int)≤v30∧v30 < (v31.length:Int) then (if (0:Int)≤v30∧v30≤((v31.take v30.toNat++List.replicate (v31.length - v30.toNat) (zq.mk 0 [] [] 0 [])).length:Int) then (some (.inr ((v31.take v30.toNat++List.replicate (v31.length - v30.toNat) (zq.mk 0 [] [] 0 [])).take v30.toNat))) else none) else none
noncomputable def y8s (p1:zq→zq→Option (Bool)) (v3:Int) (v14:Int) (v15:Int) (l16:(List zq)):Option ((Int×Int×(List zq)) ⊕ (Int ⊕ ((List zq)))):=
 if decide (v15 < ((l16.drop v3.toNat).length:Int)) then ((at? (l16.drop v3.toNat) v15).bind fun (x19:zq)=>(at? (l16.drop v3.toNat) (wr (v15 - 1))).bind fun (x21:zq)=>(p1 x19 x21).bind fun r23=>if !r23 then ((at? l16 v14).bind fun (x26:zq)=>z7l v15 (wr (v14+1)) (l16.set v14.toNat x19)) else (z7l v15 v14 l16)) else (Option.map .inr (y2v v14 l16))
noncomputable def y2w (v1:(List zq)):Option ((List zq)):=
 some v1
noncomputable def y8t (v1:(List zq)) (p1:zq→zq→Option (Bool)) (v3:Int):Option (Int ⊕ ((List zq))):=
 if decide (v3 < (v1.length:Int)) then ((at? v1 v3).bind fun (x6:zq)=>(at? v1 (wr (v3 - 1))).bind fun (x8:zq)=>(p1 x6 x8).bind fun r10=>if r10 then (if (0:Int)≤v3∧v3 < (v1.length:Int) then (iter (fun (s:Int×Int×(List zq))=>y8s p1 v3 s.1 s.2.1 s.2.2) (v3,1,v1)) else none) else (some (.inl (wr (v3+1))))) else (Option.map .inr (y2w v1))
noncomputable def y91 (v1:(List zq)) (p1:zq→zq→Option (Bool)):Option ((List zq)):=
 if decide ((v1.length:Int) < 2) then some v1 else (iter (fun (s:Int)=>y8t v1 p1 s) 1)
noncomputable def z9o (a1:zq) (b2:zq):Option (Bool):=
 (Yg a1 b2).bind fun r3=>some (decide (r3=0))
noncomputable def kr (n1:Int) (low2:Int) (high3:Int):Option (Bool):=
 some ((decide (low2≤n1)) && (decide (n1≤high3)))
noncomputable def y48 (some2:Bs) (k3:Nat) (x6:UInt8):Option (Unit ⊕ (Bool)):=
 (z4i some2 (x6.toNat:Int)).bind fun r9=>if decide (r9 < 0) then (some (.inr false)) else (some (.inl ()))
noncomputable def x1h:Option (Bool):=
 some true
noncomputable def Ww (s1:Bs) (some2:Bs):Option (Bool):=
 if s1.length≤1000000000 then forL (fun (k:Nat) (x:UInt8) (s:Unit)=>y48 some2 k x) (fun (s:Unit)=>x1h) 0 s1 () else none
noncomputable def z2g (v16:Bool):Option (Bool):=
 some v16
noncomputable def Yf (s1:Bs):Option (Bool):=
 (kr (s1.length:Int) 1 40).bind fun r2=>if r2 then ((sub? s1 0 1).bind fun (l6:Bs)=>(Ww l6 [97,98,99,100,101,102,103,104,105,106,107,108,109,110,111,112,113,114,115,116,117,118,119,120,121,122]).bind fun r8=>if r8 then ((Ww s1 [97,98,99,100,101,102,103,104,105,106,107,108,109,110,111,112,113,114,115,116,117,118,119,120,121,122,48,49,50,51,52,53,54,55,56,57,45,95]).bind fun r12=>z2g r12) else (z2g false)) else (z2g false)
noncomputable def y8j (p1:yq→Option (Bool)) (k2:Nat) (x5:yq):Option (Unit ⊕ (Int)):=
 (p1 x5).bind fun r8=>if r8 then (some (.inr (k2:Int))) else (some (.inl ()))
noncomputable def y8k:Option (Int):=
 some (-1)
noncomputable def y32 (s1:(List yq)) (p1:yq→Option (Bool)):Option (Int):=
 if s1.length≤1000000000 then forL (fun (k:Nat) (x:yq) (s:Unit)=>y8j p1 k x) (fun (s:Unit)=>y8k) 0 s1 () else none
noncomputable def z4y (p1:yq) (c2:Bs):Option (Bool):=
 some (decide (p1.Key=c2))
noncomputable def z4z (c1:yh) (key2:Bs):Option (Int):=
 (y32 c1.Products (fun (a0:yq)=>z4y a0 key2)).bind fun r3=>some r3
noncomputable def z5p (v34:Bool):Option (Int):=
 if v34 then some 1 else some 0
noncomputable def z2d (v2:yj) (v25:Bool):Option (Int):=
 if v25 then some 3 else ((kr v2.Limit (-1) 1000000000000).bind fun r27=>if !r27 then (z5p true) else ((kr v2.Trial 0 132).bind fun r31=>z5p (!r31)))
noncomputable def y0n (v52:Bool):Option (Unit ⊕ (Int)):=
 if v52 then (some (.inr 7)) else (some (.inl ()))
noncomputable def z5o (v2:yj) (k16:Nat) (x19:qw) (v45:Bool):Option (Unit ⊕ (Int)):=
 if v45 then (some (.inr 1)) else (if decide (0 < (k16:Int)) then ((at? v2.Tiers ((k16:Int) - 1)).bind fun (x49:qw)=>y0n (decide (x19.From≤x49.From))) else (y0n false))
noncomputable def y0m (v2:yj) (k16:Nat) (x19:qw):Option (Unit ⊕ (Int)):=
 (kr x19.From 1 1000000000000).bind fun r38=>if !r38 then (z5o v2 k16 x19 true) else ((kr x19.Cents 0 1000000).bind fun r42=>z5o v2 k16 x19 (!r42))
noncomputable def y0o (v2:yj):Option (Int):=
 if decide (0 < (v2.Tiers.length:Int)) then ((v2.Tiers[0]?).bind fun (x22:qw)=>z2d v2 (decide (x22.From≠1))) else (z2d v2 false)
noncomputable def z0c (v2:yj) (v13:Bool):Option (Int):=
 if v13 then some 1 else (if decide (20 < (v2.Tiers.length:Int)) then some 2 else (if v2.Tiers.length≤1000000000 then forL (fun (k:Nat) (x:qw) (s:Unit)=>y0m v2 k x) (fun (s:Unit)=>y0o v2) 0 v2.Tiers () else none))
noncomputable def z9e (v1:yh) (v2:yj):Option (Int):=
 (z4z v1 v2.Product).bind fun r3=>if decide (r3 < 0) then some 8 else ((kr v2.Base 0 1000000000000).bind fun r6=>if !r6 then (z0c v2 true) else ((kr v2.Free 0 1000000000000).bind fun r10=>z0c v2 (!r10)))
noncomputable def y47 (r2:((List Bs))) (k4:Nat) (x7:Bs):Option (Unit ⊕ (Bool)):=
 (Yf x7).bind fun r10=>if ((!r10) && ((decide (x7≠[42])) || (decide ((k4:Int) < (wr ((r2.length:Int) - 1)))))) then (some (.inr false)) else (some (.inl ()))
noncomputable def x1g (r2:((List Bs))):Option (Bool):=
 some (decide ((r2.length:Int)≤10))
noncomputable def z9d (s1:Bs):Option (Bool):=
 (kk s1 [58]).bind fun r2=>if r2.length≤1000000000 then forL (fun (k:Nat) (x:Bs) (s:Unit)=>y47 r2 k x) (fun (s:Unit)=>x1g r2) 0 r2 () else none
noncomputable def y5c (k3:Nat) (x6:Bs):Option (Unit ⊕ (Int)):=
 (z9d x6).bind fun r9=>if !r9 then (some (.inr 3)) else (some (.inl ()))
noncomputable def x1k:Option (Int):=
 some 0
noncomputable def z9h (l1:(List Bs)):Option (Int):=
 if decide (50 < (l1.length:Int)) then some 2 else (if l1.length≤1000000000 then forL (fun (k:Nat) (x:Bs) (s:Unit)=>y5c k x) (fun (s:Unit)=>x1k) 0 l1 () else none)
noncomputable def y5d (v1:yh) (k10:Nat) (x13:yj) (v9:Bs):Option (Bs ⊕ (Int)):=
 (Yf x13.Key).bind fun r16=>if !r16 then (some (.inr 5)) else (if (Op.bytesLess x13.Key v9 || x13.Key == v9) then (some (.inr 7)) else ((z9e v1 x13).bind fun r20=>if decide (r20≠0) then (some (.inr r20)) else (some (.inl x13.Key))))
noncomputable def y5f (v9:Bs):Option (Int):=
 some 0
noncomputable def y5e (k4:Nat) (x7:yq) (v3:Bs):Option (Bs ⊕ (Int)):=
 (Yf x7.Key).bind fun r25=>if !r25 then (some (.inr 5)) else (if (Op.bytesLess x7.Key v3 || x7.Key == v3) then (some (.inr 7)) else ((z9h x7.Scopes).bind fun r29=>if decide (r29≠0) then (some (.inr r29)) else (some (.inl x7.Key))))
noncomputable def z5v (v1:yh) (v3:Bs):Option (Int):=
 if decide (100 < (v1.Plans.length:Int)) then some 2 else (if v1.Plans.length≤1000000000 then forL (fun (k:Nat) (x:yj) (s:Bs)=>y5d v1 k x s) (fun (s:Bs)=>y5f s) 0 v1.Plans [] else none)
noncomputable def z41 (v1:yh):Option (Int):=
 if decide (100 < (v1.Products.length:Int)) then some 2 else (if v1.Products.length≤1000000000 then forL (fun (k:Nat) (x:yq) (s:Bs)=>y5e k x s) (fun (s:Bs)=>z5v v1 s) 0 v1.Products [] else none)
noncomputable def y4g  : Option (zz):=
 some (zz.mk 0 [] 0 (-1))
noncomputable def y8l (p1:yj→Option (Bool)) (k2:Nat) (x5:yj):Option (Unit ⊕ (Int)):=
 (p1 x5).bind fun r8=>if r8 then (some (.inr (k2:Int))) else (some (.inl ()))
noncomputable def y8m:Option (Int):=
 some (-1)
noncomputable def y33 (s1:(List yj)) (p1:yj→Option (Bool)):Option (Int):=
 if s1.length≤1000000000 then forL (fun (k:Nat) (x:yj) (s:Unit)=>y8l p1 k x) (fun (s:Unit)=>y8m) 0 s1 () else none
noncomputable def z40 (p1:yj) (c2:Bs):Option (Bool):=
 some (decide (p1.Key=c2))
noncomputable def Ye (c1:yh) (key2:Bs):Option (Int):=
 (y33 c1.Plans (fun (a0:yj)=>z40 a0 key2)).bind fun r3=>some r3
noncomputable def Za (v3:zq) (c38:Int) (c39:Bs) (c40:Int):Option (zz×Bool):=
 some ((zz.mk c38 c39 v3.At c40),true)
noncomputable def z5r (v2:zz) (v3:zq) (v25:Bool):Option (zz×Bool):=
 if v25 then (some (v2,false)) else (Za v3 v2.State v3.Plan v2.First)
noncomputable def z5q (v2:zz) (v3:zq) (v36:Bool):Option (zz×Bool):=
 if v36 then (Za v3 4 v2.Plan v2.First) else (some (v2,false))
noncomputable def z5s (v1:yh) (v2:zz) (v3:zq) (v9:Bool):Option (zz×Bool):=
 if v9 then (some (v2,false)) else (if ((decide (v3.Kind=1)) && ((decide (v2.State=0)) || (decide (v2.State=4)))) then ((Ye v1 v3.Plan).bind fun r12=>(at? v1.Plans r12).bind fun (x14:yj)=>if !x14.Asked then (Za v3 2 v3.Plan v3.At) else (Za v3 1 v3.Plan (-1))) else (if ((decide (v3.Kind=1)) && ((decide (v2.State=2)) || (decide (v2.State=3)))) then (if decide (v3.Plan=v2.Plan) then (z5r v2 v3 true) else ((Ye v1 v3.Plan).bind fun r20=>(at? v1.Plans r20).bind fun (x22:yj)=>z5r v2 v3 x22.Asked)) else (if ((decide (v3.Kind=2)) && (decide (v2.State=1))) then (Za v3 2 v2.Plan v3.At) else (if ((decide (v3.Kind=3)) && (decide (v2.State=1))) then (Za v3 4 v2.Plan v2.First) else (if ((decide (v3.Kind=4)) && (decide (v2.State=2))) then (Za v3 3 v2.Plan v2.First) else (if ((decide (v3.Kind=5)) && (decide (v2.State=3))) then (Za v3 2 v2.Plan v2.First) else (if decide (v3.Kind=6) then ((kr v2.State 1 3).bind fun r33=>z5q v2 v3 r33) else (z5q v2 v3 false))))))))
noncomputable def z9f (v1:yh) (v2:zz) (v3:zq):Option (zz×Bool):=
 if decide (v3.Kind=1) then ((Ye v1 v3.Plan).bind fun r6=>z5s v1 v2 v3 (decide (r6 < 0))) else (z5s v1 v2 v3 false)
noncomputable def y4l (s1:zy):Option (Bs×zy):=
 (xy s1 ([[97,112,112,49],[97,112,112,49],[97,112,112,49],[97,112,112,50],[97,112,112,51],[110,111,110,101]])).bind fun r2=>some (r2.1,r2.2)
noncomputable def y4k (s1:zy):Option (Bs×zy):=
 (xy s1 ([[115,104,111,112],[115,104,111,112],[115,104,111,112],[109,97,112,115],[110,111,110,101]])).bind fun r2=>some (r2.1,r2.2)
noncomputable def z43 (s1:zy) (low2:Int) (high3:Int):Option (Int×zy):=
 (Zn s1 12).bind fun r4=>if r4.1 then ((ks r4.2 [wr (low2 - 1),wr (high3+1),low2,high3,(-1099511627776),1099511627776]).bind fun r7=>some (r7.1,r7.2)) else ((Ql r4.2 low2 high3).bind fun r9=>some (r9.1,r9.2))
noncomputable def z2f (out23:(List zz)) (refused24:(List Int)):Option (((List zz)×(List Int)) ⊕ ((List zz)×(List Int))):=
 some (.inl (out23,refused24))
noncomputable def y5a (c1:yh) (app3:Bs) (product4:Bs) (k9:Nat) (x12:zq) (l7:(List zz)) (l8:(List Int)):Option (((List zz)×(List Int)) ⊕ ((List zz)×(List Int))):=
 if ((decide (x12.App≠app3)) || (decide (x12.Product≠product4))) then (z2f l7 l8) else ((at? l7 (wr ((l7.length:Int) - 1))).bind fun (x16:zz)=>(z9f c1 x16 x12).bind fun r18=>if r18.2 then (if l7.length+1≤1000000000 then (z2f (l7++[r18.1]) l8) else none) else (if l8.length+1≤1000000000 then (z2f l7 (l8++[(k9:Int)])) else none))
noncomputable def y5b (l7:(List zz)) (l8:(List Int)):Option ((List zz)×(List Int)):=
 some (l7,l8)
noncomputable def z9g (c1:yh) (l2:(List zq)) (app3:Bs) (product4:Bs):Option ((List zz)×(List Int)):=
 (y4g ).bind fun r5=>if l2.length≤1000000000 then forL (fun (k:Nat) (x:zq) (s:(List zz)×(List Int))=>y5a c1 app3 product4 k x s.1 s.2) (fun (s:(List zz)×(List Int))=>y5b s.1 s.2) 0 l2 (([r5]:(List zz)),[]) else none
noncomputable def z5y (v117:(List Bs)):Option ((List Bs) ⊕ ((Int×(List Int)×Int×(List zq)) ⊕ ((List zq)×zy))):=
 some (.inl v117)
noncomputable def y5q (r25:(Bs×zy)) (k46:Nat) (x49:yj) (l45:(List Bs)):Option ((List Bs) ⊕ ((Int×(List Int)×Int×(List zq)) ⊕ ((List zq)×zy))):=
 if decide (x49.Product=r25.1) then (if l45.length+1≤1000000000 then (z5y (l45++[x49.Key])) else none) else (z5y l45)
noncomputable def z0f (v118:Int) (v119:(List zq)) (c120:(List Int)) (c121:Int):Option ((Int×(List Int)×Int×(List zq)) ⊕ ((List zq)×zy)):=
 some (.inl (v118,c120,c121,v119))
noncomputable def Zq (v5:Int) (l8:(List zq)) (r21:(Int×zy)) (c105:(List Int)) (c106:Int) (c107:Int) (c108:Bs) (c109:Bs) (c110:Int) (c111:Bs):Option ((Int×(List Int)×Int×(List zq)) ⊕ ((List zq)×zy)):=
 if l8.length+1≤1000000000 then (z0f (wr (v5+r21.1)) (l8++[(zq.mk c107 c108 c109 c110 c111)]) c105 c106) else none
noncomputable def z2j (v5:Int) (l8:(List zq)) (r21:(Int×zy)) (r25:(Bs×zy)) (c44:Bs) (c76:Int) (c83:(List Int)) (c84:Int) (c85:Bs):Option ((Int×(List Int)×Int×(List zq)) ⊕ ((List zq)×zy)):=
 (Zn (zy.mk c83 c84) 60).bind fun r86=>if r86.1 then ((Zm r86.2 5).bind fun r89=>if decide (r89.1=0) then ((y4l r89.2).bind fun r92=>Zq v5 l8 r21 r92.2.L r92.2.at_ (wr (v5+r21.1)) r92.1 r25.1 c76 c85) else (if decide (r89.1=1) then ((y4k r89.2).bind fun r95=>Zq v5 l8 r21 r95.2.L r95.2.at_ (wr (v5+r21.1)) c44 r95.1 c76 c85) else (if decide (r89.1=2) then ((z43 r89.2 1 6).bind fun r98=>Zq v5 l8 r21 r98.2.L r98.2.at_ (wr (v5+r21.1)) c44 r25.1 r98.1 c85) else (if decide (r89.1=3) then ((xy r89.2 ([[98,105,103],[110,111,110,101],[]])).bind fun r101=>Zq v5 l8 r21 r101.2.L r101.2.at_ (wr (v5+r21.1)) c44 r25.1 c76 r101.1) else ((z43 r89.2 0 1000).bind fun r103=>Zq v5 l8 r21 r103.2.L r103.2.at_ r103.1 c44 r25.1 c76 c85))))) else (Zq v5 l8 r21 r86.2.L r86.2.at_ (wr (v5+r21.1)) c44 r25.1 c76 c85)
noncomputable def Zr (v5:Int) (l8:(List zq)) (r21:(Int×zy)) (r25:(Bs×zy)) (c44:Bs) (l45:(List Bs)) (c74:(List Int)) (c75:Int) (c76:Int):Option ((Int×(List Int)×Int×(List zq)) ⊕ ((List zq)×zy)):=
 if decide (c76=1) then (if decide ((l45.length:Int)=0) then (z0f (wr (v5+r21.1)) l8 c74 c75) else ((Zm (zy.mk c74 c75) (l45.length:Int)).bind fun r79=>(at? l45 r79.1).bind fun (x81:Bs)=>z2j v5 l8 r21 r25 c44 c76 r79.2.L r79.2.at_ x81)) else (z2j v5 l8 r21 r25 c44 c76 c74 c75 [])
noncomputable def z0d (v2:yh) (v5:Int) (l8:(List zq)) (r21:(Int×zy)) (r25:(Bs×zy)) (r27:(Int×zy)) (c44:Bs) (l45:(List Bs)) (v57:Bool) (c58:(List Int)) (c59:Int):Option ((Int×(List Int)×Int×(List zq)) ⊕ ((List zq)×zy)):=
 if v57 then ((z9g v2 l8 c44 r25.1).bind fun r61=>(at? r61.1 (wr ((r61.1.length:Int) - 1))).bind fun (x63:zz)=>if decide (x63.State=1) then ((ks (zy.mk c58 c59) [2,2,3]).bind fun r66=>Zr v5 l8 r21 r25 c44 l45 r66.2.L r66.2.at_ r66.1) else (if decide (x63.State=2) then ((ks (zy.mk c58 c59) [4,6,1]).bind fun r69=>Zr v5 l8 r21 r25 c44 l45 r69.2.L r69.2.at_ r69.1) else (if decide (x63.State=3) then ((ks (zy.mk c58 c59) [5,6]).bind fun r72=>Zr v5 l8 r21 r25 c44 l45 r72.2.L r72.2.at_ r72.1) else (Zr v5 l8 r21 r25 c44 l45 c58 c59 1)))) else (Zr v5 l8 r21 r25 c44 l45 c58 c59 r27.1)
noncomputable def y5s (v2:yh) (v5:Int) (l8:(List zq)) (r21:(Int×zy)) (r25:(Bs×zy)) (r27:(Int×zy)) (c42:(List Int)) (c43:Int) (c44:Bs) (l45:(List Bs)):Option ((Int×(List Int)×Int×(List zq)) ⊕ ((List zq)×zy)):=
 (Zn (zy.mk c42 c43) 4).bind fun r50=>if !r50.1 then ((z41 v2).bind fun r54=>z0d v2 v5 l8 r21 r25 r27 c44 l45 (decide (r54=0)) r50.2.L r50.2.at_) else (z0d v2 v5 l8 r21 r25 r27 c44 l45 false r50.2.L r50.2.at_)
noncomputable def z0e (v2:yh) (v5:Int) (l8:(List zq)) (r21:(Int×zy)) (r25:(Bs×zy)) (r27:(Int×zy)) (c42:(List Int)) (c43:Int) (c44:Bs):Option ((Int×(List Int)×Int×(List zq)) ⊕ ((List zq)×zy)):=
 if v2.Plans.length≤1000000000 then forL (fun (k:Nat) (x:yj) (s:(List Bs))=>y5q r25 k x s) (fun (s:(List Bs))=>y5s v2 v5 l8 r21 r25 r27 c42 c43 c44 s) 0 v2.Plans [] else none
noncomputable def z5x (v2:yh) (v3:(List yd)) (v5:Int) (l8:(List zq)) (r21:(Int×zy)) (r23:(Bs×zy)) (r25:(Bs×zy)) (r27:(Int×zy)) (v34:Bool) (c35:(List Int)) (c36:Int):Option ((Int×(List Int)×Int×(List zq)) ⊕ ((List zq)×zy)):=
 if v34 then ((Zm (zy.mk c35 c36) (v3.length:Int)).bind fun r38=>(at? v3 r38.1).bind fun (x40:yd)=>z0e v2 v5 l8 r21 r25 r27 r38.2.L r38.2.at_ x40.Key) else (z0e v2 v5 l8 r21 r25 r27 c35 c36 r23.1)
noncomputable def y5r (v2:yh) (v3:(List yd)) (k9:Nat) (v5:Int) (c6:(List Int)) (c7:Int) (l8:(List zq)):Option ((Int×(List Int)×Int×(List zq)) ⊕ ((List zq)×zy)):=
 (ks (zy.mk c6 c7) [1,5,86400000,864000000,2592000000,wr (2592000000 - (Int.tmod v5 2592000000))]).bind fun r21=>(xy r21.2 ([[97,112,112,49],[97,112,112,49],[97,112,112,50]])).bind fun r23=>(xy r23.2 ([[115,104,111,112],[115,104,111,112],[109,97,112,115]])).bind fun r25=>(Ql r25.2 1 6).bind fun r27=>if decide (0 < (v3.length:Int)) then ((Zn r27.2 3).bind fun r31=>z5x v2 v3 v5 l8 r21 r23 r25 r27 r31.1 r31.2.L r31.2.at_) else (z5x v2 v3 v5 l8 r21 r23 r25 r27 false r27.2.L r27.2.at_)
noncomputable def y5t (v5:Int) (c6:(List Int)) (c7:Int) (l8:(List zq)):Option ((List zq)×zy):=
 (z4j l8 (fun (a0:zq) (a1:zq)=>Yg a0 a1)).bind fun r12=>if r12.length=l8.length then ((Zn (zy.mk c6 c7) 60).bind fun r15=>if r15.1 then (some (r12,r15.2)) else ((y91 r12 (fun (a0:zq) (a1:zq)=>z9o a0 a1)).bind fun r18=>some (r18,r15.2))) else none
noncomputable def z44 (s1:zy) (v2:yh) (v3:(List yd)) (v4:Int):Option ((List zq)×zy):=
 if v4≤1000000000 then rng (fun (k:Nat) (s:Int×(List Int)×Int×(List zq))=>y5r v2 v3 k s.1 s.2.1 s.2.2.1 s.2.2.2) (fun (s:Int×(List Int)×Int×(List zq))=>y5t s.1 s.2.1 s.2.2.1 s.2.2.2) v4.toNat 0 (0,s1.L,s1.at_,[]) else none
noncomputable def z5w (last3:Bs) (x7:yd) (v17:Bool):Option (Bs ⊕ (Int)):=
 if v17 then (some (.inr 5)) else (if (Op.bytesLess x7.Key last3 || x7.Key == last3) then (some (.inr 7)) else (some (.inl x7.Key)))
noncomputable def y5g (k4:Nat) (x7:yd) (last3:Bs):Option (Bs ⊕ (Int)):=
 (Yf x7.Key).bind fun r10=>if !r10 then (z5w last3 x7 true) else ((Yf x7.Owner).bind fun r14=>z5w last3 x7 (!r14))
noncomputable def y5h (last3:Bs):Option (Int):=
 some 0
noncomputable def z9j (l1:(List yd)):Option (Int):=
 if decide (500 < (l1.length:Int)) then some 2 else (if l1.length≤1000000000 then forL (fun (k:Nat) (x:yd) (s:Bs)=>y5g k x s) (fun (s:Bs)=>y5h s) 0 l1 [] else none)
noncomputable def y4h (c1:yh) (apps2:(List yd)):Option (Int):=
 (z41 c1).bind fun r3=>if decide (r3≠0) then some r3 else ((z9j apps2).bind fun r6=>some r6)
noncomputable def y4j (v1:Int):Option (Bool):=
 (kr v1 0 345686399999).bind fun r2=>some r2
noncomputable def y8n (p1:yd→Option (Bool)) (k2:Nat) (x5:yd):Option (Unit ⊕ (Int)):=
 (p1 x5).bind fun r8=>if r8 then (some (.inr (k2:Int))) else (some (.inl ()))
noncomputable def y8o:Option (Int):=
 some (-1)
noncomputable def y34 (s1:(List yd)) (p1:yd→Option (Bool)):Option (Int):=
 if s1.length≤1000000000 then forL (fun (k:Nat) (x:yd) (s:Unit)=>y8n p1 k x) (fun (s:Unit)=>y8o) 0 s1 () else none
noncomputable def z42 (a1:yd) (c2:Bs):Option (Bool):=
 some (decide (a1.Key=c2))
noncomputable def z9k (l1:(List yd)) (key2:Bs):Option (Int):=
 (y34 l1 (fun (a0:yd)=>z42 a0 key2)).bind fun r3=>some r3
noncomputable def z5t (v47:Bool):Option (Unit ⊕ (Int)):=
 if v47 then (some (.inr 7)) else (some (.inl ()))
noncomputable def z2h (v3:(List zq)) (k8:Nat) (x11:zq) (v38:Bool):Option (Unit ⊕ (Int)):=
 if v38 then (some (.inr 16)) else (if decide (0 < (k8:Int)) then ((at? v3 ((k8:Int) - 1)).bind fun (x42:zq)=>(Yg x42 x11).bind fun r44=>z5t (decide (0≤r44))) else (z5t false))
noncomputable def z5u (v1:yh) (v3:(List zq)) (k8:Nat) (x11:zq) (r14:(Int)) (v26:Bool):Option (Unit ⊕ (Int)):=
 if v26 then (some (.inr 8)) else ((kr x11.Kind 1 6).bind fun r28=>if !r28 then (some (.inr 4)) else (if ((!(decide (x11.Kind=1))) && (decide (x11.Plan≠[]))) then (some (.inr 3)) else (if ((decide (x11.Kind=1)) && (decide (r14 < 0))) then (some (.inr 8)) else (if decide (x11.Kind=1) then ((at? v1.Plans r14).bind fun (x35:yj)=>z2h v3 k8 x11 (decide (x35.Product≠x11.Product))) else (z2h v3 k8 x11 false)))))
noncomputable def y0q (v1:yh) (v2:(List yd)) (v3:(List zq)) (k8:Nat) (x11:zq):Option (Unit ⊕ (Int)):=
 (Ye v1 x11.Plan).bind fun r14=>(y4j x11.At).bind fun r16=>if !r16 then (some (.inr 1)) else ((z9k v2 x11.App).bind fun r19=>if decide (r19 < 0) then (z5u v1 v3 k8 x11 r14 true) else ((z4z v1 x11.Product).bind fun r23=>z5u v1 v3 k8 x11 r14 (decide (r23 < 0))))
noncomputable def x1q:Option (Int):=
 some 0
noncomputable def z9i (v1:yh) (v2:(List yd)) (v3:(List zq)):Option (Int):=
 (y4h v1 v2).bind fun r4=>if decide (r4≠0) then some r4 else (if decide (1000 < (v3.length:Int)) then some 2 else (if v3.length≤1000000000 then forL (fun (k:Nat) (x:zq) (s:Unit)=>y0q v1 v2 v3 k x) (fun (s:Unit)=>x1q) 0 v3 () else none))
noncomputable def y5k (c2:yh) (apps3:(List yd)) (many4:Int) (k7:Nat) (c5:(List Int)) (c6:Int):Option (((List Int)×Int) ⊕ ((List zq)×zy)):=
 (z44 (zy.mk c5 c6) c2 apps3 many4).bind fun r11=>(z9i c2 apps3 r11.1).bind fun r13=>if decide (r13=0) then (some (.inr (r11.1,r11.2))) else (some (.inl (r11.2.L,r11.2.at_)))
noncomputable def y5l (c5:(List Int)) (c6:Int):Option ((List zq)×zy):=
 some ([],(zy.mk c5 c6))
noncomputable def z9m (s1:zy) (c2:yh) (apps3:(List yd)) (many4:Int):Option ((List zq)×zy):=
 if 5≤1000000000 then rng (fun (k:Nat) (s:(List Int)×Int)=>y5k c2 apps3 many4 k s.1 s.2) (fun (s:(List Int)×Int)=>y5l s.1 s.2) 5 0 (s1.L,s1.at_) else none
noncomputable def y4q (i2:Nat) (x5:UInt8):Option (Unit ⊕ (Bool)):=
 if !(((decide (97≤(x5.toNat:Int))) && (decide ((x5.toNat:Int)≤122))) || ((decide (0 < (i2:Int))) && ((((decide (48≤(x5.toNat:Int))) && (decide ((x5.toNat:Int)≤57))) || (decide ((x5.toNat:Int)=45))) || (decide ((x5.toNat:Int)=95))))) then (some (.inr false)) else (some (.inl ()))
noncomputable def x0q (s1:Bs):Option (Bool):=
 some ((decide (s1≠[])) && (decide ((s1.length:Int)≤40)))
noncomputable def jw (s1:Bs):Option (Bool):=
 if s1.length≤1000000000 then forL (fun (k:Nat) (x:UInt8) (s:Unit)=>y4q k x) (fun (s:Unit)=>x0q s1) 0 s1 () else none
noncomputable def y15 (r2:((List Bs))) (k4:Nat) (x7:Bs):Option (Unit ⊕ (Bool)):=
 (jw x7).bind fun r10=>if ((!r10) && (!((decide (x7=[42])) && (decide ((k4:Int)=(wr ((r2.length:Int) - 1))))))) then (some (.inr false)) else (some (.inl ()))
noncomputable def y7h (r2:((List Bs))):Option (Bool):=
 some (decide ((r2.length:Int)≤10))
noncomputable def z8a (s1:Bs):Option (Bool):=
 (kk s1 [58]).bind fun r2=>if r2.length≤1000000000 then forL (fun (k:Nat) (x:Bs) (s:Unit)=>y15 r2 k x) (fun (s:Unit)=>y7h r2) 0 r2 () else none
noncomputable def y2b (k3:Nat) (x6:Bs):Option (Unit ⊕ (Int)):=
 (z8a x6).bind fun r9=>if !r9 then (some (.inr 3)) else (some (.inl ()))
noncomputable def y7t:Option (Int):=
 some 0
noncomputable def Qh (l1:(List Bs)):Option (Int):=
 if decide (50 < (l1.length:Int)) then some 2 else (if l1.length≤1000000000 then forL (fun (k:Nat) (x:Bs) (s:Unit)=>y2b k x) (fun (s:Unit)=>y7t) 0 l1 () else none)
noncomputable def z02 (x6:yq) (v17:Bool):Option (Unit ⊕ (Int)):=
 if v17 then (some (.inr 7)) else ((Qh x6.Scopes).bind fun r19=>if decide (r19≠0) then (some (.inr r19)) else (some (.inl ())))
noncomputable def y28 (l1:(List yq)) (k3:Nat) (x6:yq):Option (Unit ⊕ (Int)):=
 (jw x6.Key).bind fun r9=>if !r9 then (some (.inr 5)) else (if decide (0 < (k3:Int)) then ((at? l1 ((k3:Int) - 1)).bind fun (x14:yq)=>z02 x6 (Op.bytesLess x6.Key x14.Key || x6.Key == x14.Key)) else (z02 x6 false))
noncomputable def y85:Option (Int):=
 some 0
noncomputable def z8q (l1:(List yq)):Option (Int):=
 if decide (100 < (l1.length:Int)) then some 2 else (if l1.length≤1000000000 then forL (fun (k:Nat) (x:yq) (s:Unit)=>y28 l1 k x) (fun (s:Unit)=>y85) 0 l1 () else none)
noncomputable def z7m (i12:Int) (v20:Bool):Option (Int×Bool):=
 some (i12,v20)
noncomputable def y2x (x1:(List yq)) (target2:Bs) (p2:yq→Bs→Option (Int)) (i12:Int):Option (Int×Bool):=
 if decide (i12 < (x1.length:Int)) then ((at? x1 i12).bind fun (x15:yq)=>(p2 x15 target2).bind fun r17=>z7m i12 (decide (r17=0))) else (z7m i12 false)
noncomputable def y8u (x1:(List yq)) (target2:Bs) (p2:yq→Bs→Option (Int)) (i3:Int) (j4:Int):Option ((Int×Int) ⊕ (Int×Bool)):=
 if decide (i3 < j4) then ((at? x1 (IntKind.wrap .i64 (shr_ .u64 (IntKind.wrap .u64 (wr (i3+j4))) 1))).bind fun (x7:yq)=>(p2 x7 target2).bind fun r9=>if decide (r9 < 0) then (some (.inl (wr ((IntKind.wrap .i64 (shr_ .u64 (IntKind.wrap .u64 (wr (i3+j4))) 1))+1),j4))) else (some (.inl (i3,IntKind.wrap .i64 (shr_ .u64 (IntKind.wrap .u64 (wr (i3+j4))) 1))))) else (Option.map .inr (y2x x1 target2 p2 i3))
noncomputable def y37 (x1:(List yq)) (target2:Bs) (p2:yq→Bs→Option (Int)):Option (Int×Bool):=
 iter (fun (s:Int×Int)=>y8u x1 target2 p2 s.1 s.2) (0,(x1.length:Int))
noncomputable def z4m (p1:yq) (k2:Bs):Option (Int):=
 (Qk p1.Key k2).bind fun r3=>some r3
noncomputable def z1s (c1:yh) (key2:Bs):Option (Int×Bool):=
 (y37 c1.Products key2 (fun (a0:yq) (a1:Bs)=>z4m a0 a1)).bind fun r3=>some (r3.1,r3.2)
noncomputable def ki (n1:Int) (low2:Int) (high3:Int):Option (Bool):=
 some ((decide (n1 < low2)) || (decide (high3 < n1)))
noncomputable def z3k (v12:Bool):Option (Int):=
 if v12 then some 3 else some 0
noncomputable def z3j (v30:Bool):Option (Unit ⊕ (Int)):=
 if v30 then (some (.inr 7)) else (some (.inl ()))
noncomputable def Wi (l1:(List qw)) (k3:Nat) (x6:qw) (v23:Bool):Option (Unit ⊕ (Int)):=
 if v23 then (some (.inr 1)) else (if decide (0 < (k3:Int)) then ((at? l1 ((k3:Int) - 1)).bind fun (x27:qw)=>z3j (decide (x6.From≤x27.From))) else (z3j false))
noncomputable def z7t (l1:(List qw)) (k3:Nat) (x6:qw):Option (Unit ⊕ (Int)):=
 (ki x6.From 1 1000000000000).bind fun r16=>if r16 then (Wi l1 k3 x6 true) else ((ki x6.Cents 0 1000000).bind fun r20=>Wi l1 k3 x6 r20)
noncomputable def y27 (l1:(List qw)):Option (Int):=
 if decide (0 < (l1.length:Int)) then ((l1[0]?).bind fun (x9:qw)=>z3k (decide (x9.From≠1))) else (z3k false)
noncomputable def z8o (l1:(List qw)):Option (Int):=
 if decide (20 < (l1.length:Int)) then some 2 else (if l1.length≤1000000000 then forL (fun (k:Nat) (x:qw) (s:Unit)=>z7t l1 k x) (fun (s:Unit)=>y27 l1) 0 l1 () else none)
noncomputable def z3l (v37:Bool):Option (Int):=
 if v37 then some 1 else some 0
noncomputable def z3m (x3:yj) (v25:Bool):Option (Int):=
 if v25 then some 1 else ((z8o x3.Tiers).bind fun r27=>if decide (r27≠0) then some r27 else ((ki x3.Limit (-1) 1000000000000).bind fun r30=>if r30 then (z3l true) else ((ki x3.Trial 0 132).bind fun r34=>z3l r34)))
noncomputable def z03 (v1:yh) (x3:yj) (v13:Bool):Option (Int):=
 if v13 then some 7 else ((z1s v1 x3.Product).bind fun r15=>if !r15.2 then some 8 else ((ki x3.Base 0 1000000000000).bind fun r18=>if r18 then (z3m x3 true) else ((ki x3.Free 0 1000000000000).bind fun r22=>z3m x3 r22)))
noncomputable def z8r (v1:yh) (v2:Int):Option (Int):=
 (at? v1.Plans v2).bind fun (x3:yj)=>(jw x3.Key).bind fun r5=>if !r5 then some 5 else (if decide (0 < v2) then ((at? v1.Plans (wr (v2 - 1))).bind fun (x10:yj)=>z03 v1 x3 (Op.bytesLess x3.Key x10.Key || x3.Key == x10.Key)) else (z03 v1 x3 false))
noncomputable def y3a (c1:yh) (k6:Nat) (x9:yj):Option (Unit ⊕ (Int)):=
 (z8r c1 (k6:Int)).bind fun r12=>if decide (r12≠0) then (some (.inr r12)) else (some (.inl ()))
noncomputable def y87:Option (Int):=
 some 0
noncomputable def z8x (c1:yh):Option (Int):=
 (z8q c1.Products).bind fun r2=>if decide (r2≠0) then some r2 else (if decide (100 < (c1.Plans.length:Int)) then some 2 else (if c1.Plans.length≤1000000000 then forL (fun (k:Nat) (x:yj) (s:Unit)=>y3a c1 k x) (fun (s:Unit)=>y87) 0 c1.Plans () else none))
noncomputable def z3s (v23:Bool):Option (Unit ⊕ (Int)):=
 if v23 then (some (.inr 7)) else (some (.inl ()))
noncomputable def z08 (l1:(List yd)) (k3:Nat) (x6:yd) (v16:Bool):Option (Unit ⊕ (Int)):=
 if v16 then (some (.inr 5)) else (if decide (0 < (k3:Int)) then ((at? l1 ((k3:Int) - 1)).bind fun (x20:yd)=>z3s (Op.bytesLess x6.Key x20.Key || x6.Key == x20.Key)) else (z3s false))
noncomputable def y3b (l1:(List yd)) (k3:Nat) (x6:yd):Option (Unit ⊕ (Int)):=
 (jw x6.Key).bind fun r9=>if !r9 then (z08 l1 k3 x6 true) else ((jw x6.Owner).bind fun r13=>z08 l1 k3 x6 (!r13))
noncomputable def y88:Option (Int):=
 some 0
noncomputable def z8y (l1:(List yd)):Option (Int):=
 if decide (500 < (l1.length:Int)) then some 2 else (if l1.length≤1000000000 then forL (fun (k:Nat) (x:yd) (s:Unit)=>y3b l1 k x) (fun (s:Unit)=>y88) 0 l1 () else none)
noncomputable def Wv (n1:Int):Option (Bool):=
 some ((decide (0≤n1)) && (decide (n1 < 345686400000)))
noncomputable def z7o (i12:Int) (v20:Bool):Option (Int×Bool):=
 some (i12,v20)
noncomputable def y2z (x1:(List yd)) (target2:Bs) (p2:yd→Bs→Option (Int)) (i12:Int):Option (Int×Bool):=
 if decide (i12 < (x1.length:Int)) then ((at? x1 i12).bind fun (x15:yd)=>(p2 x15 target2).bind fun r17=>z7o i12 (decide (r17=0))) else (z7o i12 false)
noncomputable def y8w (x1:(List yd)) (target2:Bs) (p2:yd→Bs→Option (Int)) (i3:Int) (j4:Int):Option ((Int×Int) ⊕ (Int×Bool)):=
 if decide (i3 < j4) then ((at? x1 (IntKind.wrap .i64 (shr_ .u64 (IntKind.wrap .u64 (wr (i3+j4))) 1))).bind fun (x7:yd)=>(p2 x7 target2).bind fun r9=>if decide (r9 < 0) then (some (.inl (wr ((IntKind.wrap .i64 (shr_ .u64 (IntKind.wrap .u64 (wr (i3+j4))) 1))+1),j4))) else (some (.inl (i3,IntKind.wrap .i64 (shr_ .u64 (IntKind.wrap .u64 (wr (i3+j4))) 1))))) else (Option.map .inr (y2z x1 target2 p2 i3))
noncomputable def y39 (x1:(List yd)) (target2:Bs) (p2:yd→Bs→Option (Int)):Option (Int×Bool):=
 iter (fun (s:Int×Int)=>y8w x1 target2 p2 s.1 s.2) (0,(x1.length:Int))
noncomputable def z4r (a1:yd) (k2:Bs):Option (Int):=
 (Qk a1.Key k2).bind fun r3=>some r3
noncomputable def z1w (l1:(List yd)) (key2:Bs):Option (Int×Bool):=
 (y39 l1 key2 (fun (a0:yd) (a1:Bs)=>z4r a0 a1)).bind fun r3=>some (r3.1,r3.2)
noncomputable def z7n (i12:Int) (v20:Bool):Option (Int×Bool):=
 some (i12,v20)
noncomputable def y2y (x1:(List yj)) (target2:Bs) (p2:yj→Bs→Option (Int)) (i12:Int):Option (Int×Bool):=
 if decide (i12 < (x1.length:Int)) then ((at? x1 i12).bind fun (x15:yj)=>(p2 x15 target2).bind fun r17=>z7n i12 (decide (r17=0))) else (z7n i12 false)
noncomputable def y8v (x1:(List yj)) (target2:Bs) (p2:yj→Bs→Option (Int)) (i3:Int) (j4:Int):Option ((Int×Int) ⊕ (Int×Bool)):=
 if decide (i3 < j4) then ((at? x1 (IntKind.wrap .i64 (shr_ .u64 (IntKind.wrap .u64 (wr (i3+j4))) 1))).bind fun (x7:yj)=>(p2 x7 target2).bind fun r9=>if decide (r9 < 0) then (some (.inl (wr ((IntKind.wrap .i64 (shr_ .u64 (IntKind.wrap .u64 (wr (i3+j4))) 1))+1),j4))) else (some (.inl (i3,IntKind.wrap .i64 (shr_ .u64 (IntKind.wrap .u64 (wr (i3+j4))) 1))))) else (Option.map .inr (y2y x1 target2 p2 i3))
noncomputable def y38 (x1:(List yj)) (target2:Bs) (p2:yj→Bs→Option (Int)):Option (Int×Bool):=
 iter (fun (s:Int×Int)=>y8v x1 target2 p2 s.1 s.2) (0,(x1.length:Int))
noncomputable def z4n (p1:yj) (k2:Bs):Option (Int):=
 (Qk p1.Key k2).bind fun r3=>some r3
noncomputable def z1t (c1:yh) (key2:Bs):Option (yj×Bool):=
 (y38 c1.Plans key2 (fun (a0:yj) (a1:Bs)=>z4n a0 a1)).bind fun r3=>if !r3.2 then (some ((yj.mk [] [] 0 0 [] 0 0 false),false)) else ((at? c1.Plans r3.1).bind fun (x6:yj)=>some (x6,true))
noncomputable def z9q (x1:Int):Option (Bool):=
 some (decide (x1≠x1))
noncomputable def z47 (x1:Int) (y2:Int):Option (Int):=
 (z9q x1).bind fun r3=>(z9q y2).bind fun r5=>if r3 then (if r5 then some 0 else (some (-1))) else (if r5 then some 1 else (if decide (x1 < y2) then (some (-1)) else (if decide (y2 < x1) then some 1 else some 0)))
noncomputable def y51 (k2:Nat) (x5:Int):Option (Unit ⊕ (Int)):=
 if decide (x5≠0) then (some (.inr x5)) else (some (.inl ()))
noncomputable def y52:Option (Int):=
 some 0
noncomputable def z45 (vals1:(List Int)):Option (Int):=
 if vals1.length≤1000000000 then forL (fun (k:Nat) (x:Int) (s:Unit)=>y51 k x) (fun (s:Unit)=>y52) 0 vals1 () else none
noncomputable def y4b (a1:zq) (b2:zq):Option (Int):=
 (z47 a1.At b2.At).bind fun r3=>(Qk a1.App b2.App).bind fun r5=>(Qk a1.Product b2.Product).bind fun r7=>(z45 [r3,r5,r7]).bind fun r9=>some r9
noncomputable def z3p (v32:Bool):Option (Int):=
 if v32 then some 7 else some 0
noncomputable def z04 (v3:(List zq)) (v4:Int) (x5:zq):Option (Int):=
 if decide (0 < v4) then ((at? v3 (wr (v4 - 1))).bind fun (x27:zq)=>(y4b x27 x5).bind fun r29=>z3p (decide (0≤r29))) else (z3p false)
noncomputable def z8t (v1:yh) (v2:(List yd)) (v3:(List zq)) (v4:Int):Option (Int):=
 (at? v3 v4).bind fun (x5:zq)=>(Wv x5.At).bind fun r7=>if !r7 then some 1 else ((z1w v2 x5.App).bind fun r10=>if !r10.2 then some 8 else ((z1s v1 x5.Product).bind fun r13=>if !r13.2 then some 8 else ((ki x5.Kind 1 6).bind fun r16=>if r16 then some 4 else (if ((decide (x5.Plan≠[])) && (decide (x5.Kind≠1))) then some 3 else (if decide (x5.Kind=1) then ((z1t v1 x5.Plan).bind fun r21=>if !r21.2 then some 8 else (if decide (r21.1.Product≠x5.Product) then some 16 else (z04 v3 v4 x5))) else (z04 v3 v4 x5))))))
noncomputable def y29 (c1:yh) (apps2:(List yd)) (l3:(List zq)) (k11:Nat) (x14:zq):Option (Unit ⊕ (Int)):=
 (z8t c1 apps2 l3 (k11:Int)).bind fun r17=>if decide (r17≠0) then (some (.inr r17)) else (some (.inl ()))
noncomputable def y86:Option (Int):=
 some 0
noncomputable def z4s (c1:yh) (apps2:(List yd)) (l3:(List zq)):Option (Int):=
 (z8x c1).bind fun r4=>if decide (r4≠0) then some r4 else ((z8y apps2).bind fun r7=>if decide (r7≠0) then some r7 else (if decide (1000 < (l3.length:Int)) then some 2 else (if l3.length≤1000000000 then forL (fun (k:Nat) (x:zq) (s:Unit)=>y29 c1 apps2 l3 k x) (fun (s:Unit)=>y86) 0 l3 () else none)))
noncomputable def z4p (v1:Int):Option (Int):=
 (Wv v1).bind fun r2=>if !r2 then some 1 else some 0
noncomputable def z4o  : Option (zz):=
 some (zz.mk 0 [] 0 (-1))
noncomputable def z8u (s1:jx) (app2:Bs) (product3:Bs):Option (zz):=
 if app2.length≤1000000000∧product3.length≤1000000000 then (if !((lkG s1.subs_ (yt.mk app2 product3)).isSome) then ((z4o ).bind fun r6=>some r6) else (some (zz.mk (((lkG s1.subs_ (yt.mk app2 product3)).getD (zz.mk 0 [] 0 0)).State) (((lkG s1.subs_ (yt.mk app2 product3)).getD (zz.mk 0 [] 0 0)).Plan) (((lkG s1.subs_ (yt.mk app2 product3)).getD (zz.mk 0 [] 0 0)).Since) (((lkG s1.subs_ (yt.mk app2 product3)).getD (zz.mk 0 [] 0 0)).First)))) else none
noncomputable def z4q (state1:Int):Option (Bool):=
 some ((decide (state1=2)) || (decide (state1=3)))
noncomputable def y4c (s1:zz) (x2:zq) (p3:yj):Option (zz×Bool):=
 (z4q s1.State).bind fun r4=>if r4 then (if ((decide (p3.Key=s1.Plan)) || p3.Asked) then (some (s1,false)) else (some ((zz.mk s1.State p3.Key x2.At s1.First),true))) else (if decide (s1.State=1) then (some (s1,false)) else (if p3.Asked then (some ((zz.mk 1 p3.Key x2.At (-1)),true)) else (some ((zz.mk 2 p3.Key x2.At x2.At),true))))
noncomputable def z3n (v12:Bool):Option (Int×Bool):=
 some (4,v12)
noncomputable def y4a (kind1:Int) (state2:Int):Option (Int×Bool):=
 if decide (kind1=2) then (some (2,decide (state2=1))) else (if decide (kind1=3) then (some (4,decide (state2=1))) else (if decide (kind1=4) then (some (3,decide (state2=2))) else (if decide (kind1=5) then (some (2,decide (state2=3))) else (if decide (state2=1) then (z3n true) else ((z4q state2).bind fun r9=>z3n r9)))))
noncomputable def z3o (s2:zz) (x3:zq) (r9:(Int×Bool)) (c13:Int):Option (zz×Bool):=
 some ((zz.mk r9.1 s2.Plan x3.At c13),true)
noncomputable def z8s (c1:yh) (s2:zz) (x3:zq):Option (zz×Bool):=
 if decide (x3.Kind=1) then ((z1t c1 x3.Plan).bind fun r5=>(y4c s2 x3 r5.1).bind fun r7=>some (r7.1,r7.2)) else ((y4a x3.Kind s2.State).bind fun r9=>if !r9.2 then (some (s2,false)) else (if ((decide (r9.1=2)) && (decide (s2.First < 0))) then (z3o s2 x3 r9 x3.At) else (z3o s2 x3 r9 s2.First)))
noncomputable def z05 (v23:(List Int)) (m24:(List (yt×Int))) (m25:(List (yt×zz))):Option (((List (yt×zz))×(List (yt×Int))×(List Int)) ⊕ (jx×(List Int))):=
 some (.inl (m25,m24,v23))
noncomputable def z06 (v26:(List Int)) (m27:(List (yt×Int))) (m28:(List (yt×zz))):Option (jx×(List Int)):=
 some ((jx.mk m28 m27),v26)
noncomputable def Qb (v1:yh) (v3:Int) (k7:Nat) (x10:zq) (m4:(List (yt×zz))) (m5:(List (yt×Int))) (l6:(List Int)):Option (((List (yt×zz))×(List (yt×Int))×(List Int)) ⊕ (jx×(List Int))):=
 if decide (v3 < x10.At) then (Option.map .inr (z06 l6 m5 m4)) else ((z8u (jx.mk m4 m5) x10.App x10.Product).bind fun r14=>(z8s v1 r14 x10).bind fun r16=>if !r16.2 then (if l6.length+1≤1000000000 then (z05 (l6++[(k7:Int)]) m5 m4) else none) else (if x10.App.length≤1000000000∧x10.Product.length≤1000000000 then (if decide (x10.Kind=1) then (if x10.App.length≤1000000000∧x10.Product.length≤1000000000 then (z05 l6 (ptG m5 (yt.mk x10.App x10.Product) (k7:Int)) (ptG m4 (yt.mk x10.App x10.Product) r16.1)) else none) else (z05 l6 m5 (ptG m4 (yt.mk x10.App x10.Product) r16.1))) else none))
noncomputable def z3q (m4:(List (yt×zz))) (m5:(List (yt×Int))) (l6:(List Int)):Option (jx×(List Int)):=
 z06 l6 m5 m4
noncomputable def z1v (v1:yh) (v2:(List zq)) (v3:Int):Option (jx×(List Int)):=
 if v2.length≤1000000000 then forL (fun (k:Nat) (x:zq) (s:(List (yt×zz))×(List (yt×Int))×(List Int))=>Qb v1 v3 k x s.1 s.2.1 s.2.2) (fun (s:(List (yt×zz))×(List (yt×Int))×(List Int))=>z3q s.1 s.2.1 s.2.2) 0 v2 ([],[],[]) else none
noncomputable def z10 (l1:(List Bs)):Option ((List Bs)):=
 (Wr l1).bind fun r2=>(Yd r2).bind fun r4=>(z1r r4).bind fun r6=>some r6
noncomputable def y8d (p1:Bs→Option (Bool)) (k2:Nat) (x5:Bs):Option (Unit ⊕ (Int)):=
 (p1 x5).bind fun r8=>if r8 then (some (.inr (k2:Int))) else (some (.inl ()))
noncomputable def y8e:Option (Int):=
 some (-1)
noncomputable def y30 (s1:(List Bs)) (p1:Bs→Option (Bool)):Option (Int):=
 if s1.length≤1000000000 then forL (fun (k:Nat) (x:Bs) (s:Unit)=>y8d p1 k x) (fun (s:Unit)=>y8e) 0 s1 () else none
noncomputable def z7k (j6:Int) (i17:Int) (s18:(List Bs)):Option ((Int×Int×(List Bs)) ⊕ ((List Bs))):=
 some (.inl (i17,wr (j6+1),s18))
noncomputable def y2s (i19:Int) (s20:(List Bs)):Option ((List Bs)):=
 if (0:Int)≤i19∧i19 < (s20.length:Int) then (if (0:Int)≤i19∧i19≤((s20.take i19.toNat++List.replicate (s20.length - i19.toNat) []).length:Int) then (some ((s20.take i19.toNat++List.replicate (s20.length - i19.toNat) []).take i19.toNat)) else none) else none
noncomputable def y8r (p1:Bs→Option (Bool)) (i5:Int) (j6:Int) (l7:(List Bs)):Option ((Int×Int×(List Bs)) ⊕ ((List Bs))):=
 if decide (j6 < (l7.length:Int)) then ((at? l7 j6).bind fun (x10:Bs)=>(p1 x10).bind fun r12=>if !r12 then ((at? l7 i5).bind fun (x15:Bs)=>z7k j6 (wr (i5+1)) (l7.set i5.toNat x10)) else (z7k j6 i5 l7)) else (Option.map .inr (y2s i5 l7))
noncomputable def y35 (s1:(List Bs)) (p1:Bs→Option (Bool)):Option ((List Bs)):=
 (y30 s1 p1).bind fun r2=>if decide (r2=(-1)) then some s1 else (iter (fun (s:Int×Int×(List Bs))=>y8r p1 s.1 s.2.1 s.2.2) (r2,wr (r2+1),s1))
noncomputable def z1q (s1:(List Bs)) (p1:Bs→Option (Bool)):Option (Bool):=
 (y30 s1 p1).bind fun r2=>some (decide (0≤r2))
noncomputable def z29 (v11:Bool):Option (Bool):=
 some v11
noncomputable def z39 (a1:Bs) (b2:Bs):Option (Bool):=
 if decide (a1=b2) then some true else ((z1n a1 [42]).bind fun r4=>if r4.2 then ((z1m b2 r4.1).bind fun r8=>z29 r8) else (z29 false))
noncomputable def z26 (v8:Bool):Option (Bool):=
 some v8
noncomputable def z77 (h1:Bs) (c2:Bs):Option (Bool):=
 if decide (h1≠c2) then ((z39 h1 c2).bind fun r5=>z26 r5) else (z26 false)
noncomputable def z78 (s1:Bs) (c2:(List Bs)):Option (Bool):=
 (z1q c2 (fun (a0:Bs)=>z77 a0 s1)).bind fun r3=>some r3
noncomputable def z1j (l1:(List Bs)):Option ((List Bs)):=
 (z10 l1).bind fun r2=>(Wr r2).bind fun r4=>(y35 r4 (fun (a0:Bs)=>z78 a0 r2)).bind fun r6=>some r6
noncomputable def z8i (l1:(List Bs)):Option ((List Bs)×Int):=
 (Qh l1).bind fun r2=>if decide (r2≠0) then (some ([],r2)) else ((z1j l1).bind fun r5=>some (r5,0))
noncomputable def z1u (s1:jx) (app2:Bs) (product3:Bs):Option (zz):=
 if app2.length≤1000000000∧product3.length≤1000000000 then (if !((lkG s1.subs_ (yt.mk app2 product3)).isSome) then ((z4o ).bind fun r6=>some r6) else (some (zz.mk (((lkG s1.subs_ (yt.mk app2 product3)).getD (zz.mk 0 [] 0 0)).State) (((lkG s1.subs_ (yt.mk app2 product3)).getD (zz.mk 0 [] 0 0)).Plan) (((lkG s1.subs_ (yt.mk app2 product3)).getD (zz.mk 0 [] 0 0)).Since) (((lkG s1.subs_ (yt.mk app2 product3)).getD (zz.mk 0 [] 0 0)).First)))) else none
noncomputable def z3r (v31:(List Bs)):Option ((List Bs) ⊕ ((List Bs)×Int)):=
 some (.inl v31)
noncomputable def z07 (v4:Bs) (r15:(jx×(List Int))) (k18:Nat) (x21:yq) (l17:(List Bs)):Option ((List Bs) ⊕ ((List Bs)×Int)):=
 (z1u r15.1 v4 x21.Key).bind fun r27=>if decide (r27.State=2) then (if l17.length+x21.Scopes.length≤1000000000 then (z3r (l17++x21.Scopes)) else none) else (z3r l17)
noncomputable def Qc (l17:(List Bs)):Option ((List Bs)×Int):=
 if decide (50 < (l17.length:Int)) then (some ([],2)) else ((z8i l17).bind fun r23=>some (r23.1,r23.2))
noncomputable def z8w (v1:yh) (v2:(List yd)) (v3:(List zq)) (v4:Bs) (v5:Int):Option ((List Bs)×Int):=
 (z4s v1 v2 v3).bind fun r6=>if decide (r6≠0) then (some ([],r6)) else ((z1w v2 v4).bind fun r9=>if !r9.2 then (some ([],8)) else ((z4p v5).bind fun r12=>if decide (r12≠0) then (some ([],r12)) else ((z1v v1 v3 v5).bind fun r15=>if v1.Products.length≤1000000000 then forL (fun (k:Nat) (x:yq) (s:(List Bs))=>z07 v4 r15 k x s) (fun (s:(List Bs))=>Qc s) 0 v1.Products [] else none)))
noncomputable def z23 (v13:Bool):Option (Unit ⊕ (Int)):=
 if v13 then (some (.inr 3)) else (some (.inl ()))
noncomputable def y13 (k2:Nat) (x5:UInt8):Option (Unit ⊕ (Int)):=
 if decide ((x5.toNat:Int) < 33) then (z23 true) else (z23 (decide (126 < (x5.toNat:Int))))
noncomputable def y14 (s1:Bs):Option (Int):=
 if decide (s1=[]) then some 3 else (if decide (100 < (s1.length:Int)) then some 2 else some 0)
noncomputable def z38 (s1:Bs):Option (Int):=
 if s1.length≤1000000000 then forL (fun (k:Nat) (x:UInt8) (s:Unit)=>y13 k x) (fun (s:Unit)=>y14 s1) 0 s1 () else none
noncomputable def x0d (i1:Int):Option (Bs):=
 if decide (i1 < 10) then ((sub? [48,49,50,51,52,53,54,55,56,57,97,98,99,100,101,102,103,104,105,106,107,108,109,110,111,112,113,114,115,116,117,118,119,120,121,122] i1 (wr (i1+1))).bind fun (l3:Bs)=>some l3) else ((sub? [48,48,48,49,48,50,48,51,48,52,48,53,48,54,48,55,48,56,48,57,49,48,49,49,49,50,49,51,49,52,49,53,49,54,49,55,49,56,49,57,50,48,50,49,50,50,50,51,50,52,50,53,50,54,50,55,50,56,50,57,51,48,51,49,51,50,51,51,51,52,51,53,51,54,51,55,51,56,51,57,52,48,52,49,52,50,52,51,52,52,52,53,52,54,52,55,52,56,52,57,53,48,53,49,53,50,53,51,53,52,53,53,53,54,53,55,53,56,53,57,54,48,54,49,54,50,54,51,54,52,54,53,54,54,54,55,54,56,54,57,55,48,55,49,55,50,55,51,55,52,55,53,55,54,55,55,55,56,55,57,56,48,56,49,56,50,56,51,56,52,56,53,56,54,56,55,56,56,56,57,57,48,57,49,57,50,57,51,57,52,57,53,57,54,57,55,57,56,57,57] (wr (i1 * 2)) (wr ((wr (i1 * 2))+2))).bind fun (l5:Bs)=>some l5)
noncomputable def z88 (x1:Int):Option (Bool):=
 some (decide ((and_ .i64 x1 (wr (x1 - 1)))=0))
noncomputable def z17 (v5:Bool) (v52:Int) (l53:(List Int)):Option ((List Int)×Bs):=
 if v5 then none else (if l53.length=65 then (if (0:Int)≤v52∧v52≤(65:Int) then (some ([],(strN (l53.drop v52.toNat)))) else none) else none)
noncomputable def z18 (v4:Bool) (v5:Bool) (v47:Int) (l48:(List Int)):Option ((List Int)×Bs):=
 if v4 then (if (0:Int)≤(wr (v47 - 1))∧(wr (v47 - 1)) < (65:Int) then (if (wr (v47 - 1)).toNat < l48.length then (z17 v5 (wr (v47 - 1)) (l48.set (wr (v47 - 1)).toNat 45)) else none) else none) else (z17 v5 v47 l48)
noncomputable def Wz (v4:Bool) (v5:Bool) (v23:Int) (v24:Int) (l25:(List Int)):Option ((List Int)×Bs):=
 (at? [48,49,50,51,52,53,54,55,56,57,97,98,99,100,101,102,103,104,105,106,107,108,109,110,111,112,113,114,115,116,117,118,119,120,121,122] v23).bind fun (x26:UInt8)=>if (0:Int)≤(wr (v24 - 1))∧(wr (v24 - 1)) < (65:Int) then (if (wr (v24 - 1)).toNat < l25.length then (z18 v4 v5 (wr (v24 - 1)) (l25.set (wr (v24 - 1)).toNat (x26.toNat:Int))) else none) else none
noncomputable def y0a (v3:Int) (v4:Bool) (v5:Bool) (r11:(Int)) (v13:Int) (v14:Int) (l15:(List Int)):Option ((Int×Int×(List Int)) ⊕ ((List Int)×Bs)):=
 if decide ((IntKind.wrap .u64 v3)≤v13) then ((at? [48,49,50,51,52,53,54,55,56,57,97,98,99,100,101,102,103,104,105,106,107,108,109,110,111,112,113,114,115,116,117,118,119,120,121,122] (and_ .u64 v13 (IntKind.wrap .u64 ((IntKind.wrap .u64 v3) - 1)))).bind fun (x18:UInt8)=>if (0:Int)≤(wr (v14 - 1))∧(wr (v14 - 1)) < (65:Int) then (if (wr (v14 - 1)).toNat < l15.length then (if (0:Int)≤(IntKind.wrap .u64 r11) then (some (.inl ((shr_ .u64 v13 (IntKind.wrap .u64 r11)),wr (v14 - 1),(l15.set (wr (v14 - 1)).toNat (x18.toNat:Int))))) else none) else none) else none) else (Option.map .inr (Wz v4 v5 v13 v14 l15))
noncomputable def y42 (v4:Bool) (v5:Bool) (v40:Int) (v41:Int) (l42:(List Int)):Option ((List Int)×Bs):=
 (at? [48,49,50,51,52,53,54,55,56,57,97,98,99,100,101,102,103,104,105,106,107,108,109,110,111,112,113,114,115,116,117,118,119,120,121,122] v40).bind fun (x43:UInt8)=>if (0:Int)≤(wr (v41 - 1))∧(wr (v41 - 1)) < (65:Int) then (if (wr (v41 - 1)).toNat < l42.length then (z18 v4 v5 (wr (v41 - 1)) (l42.set (wr (v41 - 1)).toNat (x43.toNat:Int))) else none) else none
noncomputable def x1c (v3:Int) (v4:Bool) (v5:Bool) (v30:Int) (v31:Int) (l32:(List Int)):Option ((Int×Int×(List Int)) ⊕ ((List Int)×Bs)):=
 if decide ((IntKind.wrap .u64 v3)≤v30) then (if (IntKind.wrap .u64 v3)≠0 then ((at? [48,49,50,51,52,53,54,55,56,57,97,98,99,100,101,102,103,104,105,106,107,108,109,110,111,112,113,114,115,116,117,118,119,120,121,122] (IntKind.wrap .u64 (v30 - (IntKind.wrap .u64 ((IntKind.wrap .u64 (Int.tdiv v30 (IntKind.wrap .u64 v3))) * (IntKind.wrap .u64 v3)))))).bind fun (x36:UInt8)=>if (0:Int)≤(wr (v31 - 1))∧(wr (v31 - 1)) < (65:Int) then (if (wr (v31 - 1)).toNat < l32.length then (some (.inl ((IntKind.wrap .u64 (Int.tdiv v30 (IntKind.wrap .u64 v3))),wr (v31 - 1),(l32.set (wr (v31 - 1)).toNat (x36.toNat:Int))))) else none) else none) else none) else (Option.map .inr (y42 v4 v5 v30 v31 l32))
noncomputable def z5k (v2:Int) (v3:Int) (v4:Bool) (v5:Bool):Option ((List Int)×Bs):=
 (z88 v3).bind fun r8=>if r8 then ((z5b (IntKind.wrap .u64 v3)).bind fun r11=>iter (fun (s:Int×Int×(List Int))=>y0a v3 v4 v5 r11 s.1 s.2.1 s.2.2) (v2,65,(List.replicate 65 0))) else (iter (fun (s:Int×Int×(List Int))=>x1c v3 v4 v5 s.1 s.2.1 s.2.2) (v2,65,(List.replicate 65 0)))
noncomputable def z89 (v1:(List Int)) (v2:Int) (v3:Int) (v4:Bool) (v5:Bool):Option ((List Int)×Bs):=
 if (((decide (v3 < 2)) || (decide (v3=10))) || (decide (36 < v3))) then none else (if v4 then none else (z5k v2 v3 v4 v5))
noncomputable def z9a (i1:Int) (base2:Int):Option (Bs):=
 if decide (base2=10) then (if decide (i1 < 100) then ((x0d (IntKind.wrap .i64 i1)).bind fun r5=>some r5) else none) else ((z89 ([]:(List Int)) i1 base2 false false).bind fun r7=>some r7.2)
noncomputable def Wp (i1:Int) (base2:Int):Option (Bs):=
 (z9a i1 base2).bind fun r3=>some r3
noncomputable def y11 (k9:Nat) (h8:Int):Option (Int ⊕ (Bs)):=
 some (.inl (IntKind.wrap .u64 ((xor_ .u64 h8 (shr_ .u64 h8 29)) * 13787848793156543929)))
noncomputable def y12 (h8:Int):Option (Bs):=
 (Wp h8 16).bind fun r12=>(Qj [48] (wr (16 - (r12.length:Int)))).bind fun r14=>if r14.length+r12.length≤1000000000 then (some (r14++r12)) else none
noncomputable def y10 (k21:Nat) (x24:UInt8) (h20:Int):Option (Int ⊕ (Int ⊕ (Bs))):=
 some (.inl (IntKind.wrap .u64 ((xor_ .u64 h20 (IntKind.wrap .u64 (x24.toNat:Int))) * 1099511628211)))
noncomputable def y7g (h20:Int):Option (Int ⊕ (Bs)):=
 some (.inl h20)
noncomputable def z0t (k4:Nat) (x7:Bs) (h3:Int):Option (Int ⊕ (Bs)):=
 if x7.length≤1000000000 then forL (fun (k:Nat) (x:UInt8) (s:Int)=>y10 k x s) (fun (s:Int)=>y7g s) 0 x7 h3 else none
noncomputable def Wa (h3:Int):Option (Bs):=
 if 3≤1000000000 then rng (fun (k:Nat) (s:Int)=>y11 k s) (fun (s:Int)=>y12 s) 3 0 h3 else none
noncomputable def xg (secret1:Bs) (text2:Bs):Option (Bs):=
 if ([secret1,[0],text2,[0],secret1]).length≤1000000000 then forL (fun (k:Nat) (x:Bs) (s:Int)=>z0t k x s) (fun (s:Int)=>Wa s) 0 ([secret1,[0],text2,[0],secret1]) 14695981039346656037 else none
noncomputable def z8h (secret1:Bs) (text2:Bs):Option (Bs×Int):=
 (z38 secret1).bind fun r3=>if decide (r3≠0) then (some ([],r3)) else ((xg secret1 text2).bind fun r6=>some (r6,0))
noncomputable def y8f (p1:wh→Option (Bool)) (k2:Nat) (x5:wh):Option (Unit ⊕ (Int)):=
 (p1 x5).bind fun r8=>if r8 then (some (.inr (k2:Int))) else (some (.inl ()))
noncomputable def y8g:Option (Int):=
 some (-1)
noncomputable def y31 (s1:(List wh)) (p1:wh→Option (Bool)):Option (Int):=
 if s1.length≤1000000000 then forL (fun (k:Nat) (x:wh) (s:Unit)=>y8f p1 k x) (fun (s:Unit)=>y8g) 0 s1 () else none
noncomputable def y36 (s1:(List wh)) (p1:wh→Option (Bool)):Option (Bool):=
 (y31 s1 p1).bind fun r2=>some (decide (0≤r2))
noncomputable def z73 (o1:wh) (c2:wh):Option (Bool):=
 some (decide (o1.Id=c2.Id))
noncomputable def Wb (v24:Bool):Option (Int):=
 if v24 then some 7 else some 0
noncomputable def z74 (l1:(List wh)) (i2:Int):Option (Int):=
 (at? l1 i2).bind fun (x3:wh)=>(jw x3.Id).bind fun r5=>if !r5 then some 5 else ((sub? l1 0 i2).bind fun (l8:(List wh))=>(y36 l8 (fun (a0:wh)=>z73 a0 x3)).bind fun r10=>if r10 then some 6 else ((z38 x3.Secret).bind fun r13=>if decide (r13≠0) then some r13 else ((ki x3.From 0 x3.To).bind fun r16=>if ((r16 || (decide (x3.Until < x3.To))) || (decide (345686400000 < x3.Until))) then some 1 else (if decide (0 < i2) then ((at? l1 (wr (i2 - 1))).bind fun (x21:wh)=>Wb (decide (x3.From < x21.From))) else (Wb false)))))
noncomputable def y2a (l1:(List wh)) (k3:Nat) (x6:wh):Option (Unit ⊕ (Int)):=
 (z74 l1 (k3:Int)).bind fun r9=>if decide (r9≠0) then (some (.inr r9)) else (some (.inl ()))
noncomputable def y7s:Option (Int):=
 some 0
noncomputable def z4e (l1:(List wh)):Option (Int):=
 if decide (50 < (l1.length:Int)) then some 2 else (if l1.length≤1000000000 then forL (fun (k:Nat) (x:wh) (s:Unit)=>y2a l1 k x) (fun (s:Unit)=>y7s) 0 l1 () else none)
noncomputable def z3c (x6:va) (v17:Bool):Option (Unit ⊕ (Int)):=
 if v17 then (some (.inr 7)) else ((ki x6.At 0 x6.Until).bind fun r19=>if (r19 || (decide (345686400000 < x6.Until))) then (some (.inr 1)) else (some (.inl ())))
noncomputable def z64 (l1:(List va)) (k3:Nat) (x6:va):Option (Unit ⊕ (Int)):=
 (jw x6.Id).bind fun r9=>if !r9 then (some (.inr 5)) else (if decide (0 < (k3:Int)) then ((at? l1 ((k3:Int) - 1)).bind fun (x14:va)=>z3c x6 (Op.bytesLess x6.Id x14.Id || x6.Id == x14.Id)) else (z3c x6 false))
noncomputable def y2c:Option (Int):=
 some 0
noncomputable def z8k (l1:(List va)):Option (Int):=
 if decide (1000 < (l1.length:Int)) then some 2 else (if l1.length≤1000000000 then forL (fun (k:Nat) (x:va) (s:Unit)=>z64 l1 k x) (fun (s:Unit)=>y2c) 0 l1 () else none)
noncomputable def z28 (v7:Bool):Option (Bool):=
 some v7
noncomputable def z79 (s1:Bs):Option (Bool):=
 if decide ((s1.length:Int)=16) then ((y3t s1 [48,49,50,51,52,53,54,55,56,57,97,98,99,100,101,102]).bind fun r4=>z28 (decide (r4=[]))) else (z28 false)
noncomputable def Yw (x3:vi) (v22:Bool):Option (Int):=
 if v22 then some 7 else ((Qh x3.Scopes).bind fun r24=>if decide (r24≠0) then some r24 else ((ki x3.From 0 x3.To).bind fun r27=>if (r27 || (decide (345686400000 < x3.To))) then some 1 else some 0))
noncomputable def z8b (v1:(List vi)) (v2:Int):Option (Int):=
 (at? v1 v2).bind fun (x3:vi)=>(jw x3.App).bind fun r5=>if !r5 then some 5 else ((z79 x3.Sum).bind fun r8=>if !r8 then some 3 else (if decide (0 < v2) then ((at? v1 (wr (v2 - 1))).bind fun (x13:vi)=>if Op.bytesLess x3.App x13.App then (Yw x3 true) else (if decide (x3.App=x13.App) then (Yw x3 (Op.bytesLess x3.Sum x13.Sum || x3.Sum == x13.Sum)) else (Yw x3 false))) else (Yw x3 false)))
noncomputable def y2d (l1:(List vi)) (k3:Nat) (x6:vi):Option (Unit ⊕ (Int)):=
 (z8b l1 (k3:Int)).bind fun r9=>if decide (r9≠0) then (some (.inr r9)) else (some (.inl ()))
noncomputable def y7u:Option (Int):=
 some 0
noncomputable def z8l (l1:(List vi)):Option (Int):=
 if decide (500 < (l1.length:Int)) then some 2 else (if l1.length≤1000000000 then forL (fun (k:Nat) (x:vi) (s:Unit)=>y2d l1 k x) (fun (s:Unit)=>y7u) 0 l1 () else none)
noncomputable def z0w (k1:jm) (v9:Bool):Option (Int):=
 if v9 then some 5 else ((z4e k1.Signers).bind fun r11=>if decide (r11≠0) then some r11 else ((z8k k1.Revoked).bind fun r14=>if decide (r14≠0) then some r14 else ((z8l k1.Holders).bind fun r17=>if decide (r17≠0) then some r17 else ((ki k1.Skew 0 600000).bind fun r20=>if r20 then some 1 else some 0))))
noncomputable def z4f (k1:jm):Option (Int):=
 (jw k1.Issuer).bind fun r2=>if !r2 then (z0w k1 true) else ((jw k1.Audience).bind fun r6=>z0w k1 (!r6))
noncomputable def z84 (c1:Int):Option (Bool):=
 some (((decide (97≤c1)) && (decide (c1≤122))) || ((decide (65≤c1)) && (decide (c1≤90))))
noncomputable def z4u (c1:Int):Option (Bool):=
 some ((decide (48≤c1)) && (decide (c1≤57)))
noncomputable def z3x (v14:Bool):Option (Bool):=
 some v14
noncomputable def z82 (c1:Int):Option (Bool):=
 (z84 c1).bind fun r2=>if r2 then (z3x true) else ((z4u c1).bind fun r6=>if r6 then (z3x true) else ((z4i [33,35,36,37,38,39,42,43,45,46,94,95,96,124,126] c1).bind fun r10=>z3x (decide (0≤r10))))
noncomputable def y3n (k2:Nat) (x5:UInt8):Option (Unit ⊕ (Bool)):=
 (z82 (x5.toNat:Int)).bind fun r8=>if !r8 then (some (.inr false)) else (some (.inl ()))
noncomputable def y9j (s1:Bs):Option (Bool):=
 some ((decide (s1≠[])) && (decide ((s1.length:Int)≤100)))
noncomputable def Wt (s1:Bs):Option (Bool):=
 if s1.length≤1000000000 then forL (fun (k:Nat) (x:UInt8) (s:Unit)=>y3n k x) (fun (s:Unit)=>y9j s1) 0 s1 () else none
noncomputable def uc (c1:Int):Option (Int):=
 some (or_ .u8 c1 32)
noncomputable def z5i (v47:Int) (v85:Int):Option ((Int×Int) ⊕ (Bool)):=
 some (.inl (v85,wr (v47+1)))
noncomputable def Yk (v14:Bs) (v46:Int) (v47:Int) (v78:Bool):Option ((Int×Int) ⊕ (Bool)):=
 if v78 then (z5i v47 48) else ((at? v14 v47).bind fun (x80:UInt8)=>if decide ((x80.toNat:Int)=95) then (if decide (v46≠48) then (some (.inr false)) else (z5i v47 95)) else (if decide (v46=95) then (some (.inr false)) else (z5i v47 33)))
noncomputable def y41 (v86:Int):Option (Bool):=
 some (decide (v86≠95))
noncomputable def x1b (v14:Bs) (v45:Bool) (v46:Int) (v47:Int):Option ((Int×Int) ⊕ (Bool)):=
 if decide (v47 < (v14.length:Int)) then ((at? v14 v47).bind fun (x50:UInt8)=>if decide (48≤(x50.toNat:Int)) then (if decide ((x50.toNat:Int)≤57) then (Yk v14 v46 v47 true) else (if v45 then ((uc (x50.toNat:Int)).bind fun r58=>if decide (97≤r58) then ((uc (x50.toNat:Int)).bind fun r62=>Yk v14 v46 v47 (decide (r62≤102))) else (Yk v14 v46 v47 false)) else (Yk v14 v46 v47 false))) else (if v45 then ((uc (x50.toNat:Int)).bind fun r70=>if decide (97≤r70) then ((uc (x50.toNat:Int)).bind fun r74=>Yk v14 v46 v47 (decide (r74≤102))) else (Yk v14 v46 v47 false)) else (Yk v14 v46 v47 false))) else (Option.map .inr (y41 v46))
noncomputable def z98 (v14:Bs) (v43:Int) (v44:Int) (v45:Bool):Option (Bool):=
 iter (fun (s:Int×Int)=>x1b v14 v45 s.1 s.2) (v43,v44)
noncomputable def Wy (v14:Bs) (v37:Bool):Option (Bool):=
 if v37 then ((v14[1]?).bind fun (x39:UInt8)=>(uc (x39.toNat:Int)).bind fun r41=>z98 v14 48 2 (decide (r41=120))) else (z98 v14 94 0 false)
noncomputable def z99 (v14:Bs):Option (Bool):=
 if decide (2≤(v14.length:Int)) then ((v14[0]?).bind fun (x17:UInt8)=>if decide ((x17.toNat:Int)=48) then ((v14[1]?).bind fun (x21:UInt8)=>(uc (x21.toNat:Int)).bind fun r23=>if decide (r23=98) then (Wy v14 true) else ((uc (x21.toNat:Int)).bind fun r27=>if decide (r27=111) then (Wy v14 true) else ((uc (x21.toNat:Int)).bind fun r31=>Wy v14 (decide (r31=120))))) else (Wy v14 false)) else (Wy v14 false)
noncomputable def z5j (v1:Bs) (v10:Bool):Option (Bool):=
 if v10 then ((sub? v1 1 (v1.length:Int)).bind fun (l12:Bs)=>z99 l12) else (z99 v1)
noncomputable def x0c (v1:Bs):Option (Bool):=
 if decide (1≤(v1.length:Int)) then ((v1[0]?).bind fun (x4:UInt8)=>if decide ((x4.toNat:Int)=45) then (z5j v1 true) else (z5j v1 (decide ((x4.toNat:Int)=43)))) else (z5j v1 false)
noncomputable def y0b (v87:Bool) (v88:Int):Option ((Bool×Int) ⊕ (Int×Int)):=
 some (.inl (v87,v88))
noncomputable def y0i (v46:Int) (v49:Int) (v53:Int) (v55:Bool) (v56:Int) (v83:Int):Option ((Bool×Int) ⊕ (Int×Int)):=
 if decide ((IntKind.wrap .u8 v46)≤v83) then (some (.inr (0,2))) else (if decide (v53≤v56) then (some (.inr (IntKind.wrap .u64 ((shl_ .u64 1 (IntKind.wrap .u64 v49)) - 1),1))) else (if ((decide ((IntKind.wrap .u64 ((IntKind.wrap .u64 (v56 * (IntKind.wrap .u64 v46)))+(IntKind.wrap .u64 v83))) < (IntKind.wrap .u64 (v56 * (IntKind.wrap .u64 v46))))) || (decide ((IntKind.wrap .u64 ((shl_ .u64 1 (IntKind.wrap .u64 v49)) - 1)) < (IntKind.wrap .u64 ((IntKind.wrap .u64 (v56 * (IntKind.wrap .u64 v46)))+(IntKind.wrap .u64 v83)))))) then (some (.inr (IntKind.wrap .u64 ((shl_ .u64 1 (IntKind.wrap .u64 v49)) - 1),1))) else (y0b v55 (IntKind.wrap .u64 ((IntKind.wrap .u64 (v56 * (IntKind.wrap .u64 v46)))+(IntKind.wrap .u64 v83))))))
noncomputable def y0h (v46:Int) (v49:Int) (v53:Int) (v55:Bool) (v56:Int) (x60:Int) (v79:Bool):Option ((Bool×Int) ⊕ (Int×Int)):=
 if v79 then ((uc x60).bind fun r81=>y0i v46 v49 v53 v55 v56 (IntKind.wrap .u8 ((IntKind.wrap .u8 (r81 - 97))+10))) else (some (.inr (0,2)))
noncomputable def x1d (v2:Int) (v46:Int) (v49:Int) (v53:Int) (k57:Nat) (x60:Int) (v55:Bool) (v56:Int):Option ((Bool×Int) ⊕ (Int×Int)):=
 if ((decide (x60=95)) && (decide (v2=0))) then (y0b true v56) else (if ((decide (48≤x60)) && (decide (x60≤57))) then (y0i v46 v49 v53 v55 v56 (IntKind.wrap .u8 (x60 - 48))) else ((uc x60).bind fun r72=>if decide (97≤r72) then ((uc x60).bind fun r76=>y0h v46 v49 v53 v55 v56 x60 (decide (r76≤122))) else (y0h v46 v49 v53 v55 v56 x60 false)))
noncomputable def y0c (v56:Int) (v66:Bool):Option (Int×Int):=
 if v66 then (some (0,2)) else (some (v56,0))
noncomputable def x1e (v1:Bs) (v55:Bool) (v56:Int):Option (Int×Int):=
 if v55 then ((x0c v1).bind fun r63=>y0c v56 (!r63)) else (y0c v56 false)
noncomputable def z5l (v1:Bs) (v2:Int) (v45:Bs) (v46:Int) (v49:Int) (v53:Int):Option (Int×Int):=
 if (0:Int)≤(IntKind.wrap .u64 v49) then (if (jd v45).length≤1000000000 then forL (fun (k:Nat) (x:Int) (s:Bool×Int)=>x1d v2 v46 v49 v53 k x s.1 s.2) (fun (s:Bool×Int)=>x1e v1 s.1 s.2) 0 (jd v45) (false,0) else none) else none
noncomputable def y0d (v1:Bs) (v2:Int) (v45:Bs) (v46:Int) (v49:Int):Option (Int×Int):=
 if decide (v46=10) then (z5l v1 v2 v45 v46 v49 1844674407370955162) else (if decide (v46=16) then (z5l v1 v2 v45 v46 v49 1152921504606846976) else (if (IntKind.wrap .u64 v46)≠0 then (z5l v1 v2 v45 v46 v49 (IntKind.wrap .u64 ((IntKind.wrap .u64 (Int.tdiv 18446744073709551615 (IntKind.wrap .u64 v46)))+1))) else none))
noncomputable def Qn (v1:Bs) (v2:Int) (v3:Int) (v45:Bs) (v46:Int):Option (Int×Int):=
 if decide (v3=0) then (y0d v1 v2 v45 v46 64) else (if ((decide (v3 < 0)) || (decide (64 < v3))) then (some (0,4)) else (y0d v1 v2 v45 v46 v3))
noncomputable def y0e (v1:Bs) (v2:Int) (v3:Int) (v39:Bool):Option (Int×Int):=
 if v39 then ((sub? v1 2 (v1.length:Int)).bind fun (l41:Bs)=>Qn v1 v2 v3 l41 16) else ((sub? v1 1 (v1.length:Int)).bind fun (l43:Bs)=>Qn v1 v2 v3 l43 8)
noncomputable def y0f (v1:Bs) (v2:Int) (v3:Int) (v28:Bool):Option (Int×Int):=
 if v28 then ((sub? v1 2 (v1.length:Int)).bind fun (l30:Bs)=>Qn v1 v2 v3 l30 8) else (if decide (3≤(v1.length:Int)) then ((v1[1]?).bind fun (x34:UInt8)=>(uc (x34.toNat:Int)).bind fun r36=>y0e v1 v2 v3 (decide (r36=120))) else (y0e v1 v2 v3 false))
noncomputable def y0g (v1:Bs) (v2:Int) (v3:Int) (v17:Bool):Option (Int×Int):=
 if v17 then ((sub? v1 2 (v1.length:Int)).bind fun (l19:Bs)=>Qn v1 v2 v3 l19 2) else (if decide (3≤(v1.length:Int)) then ((v1[1]?).bind fun (x23:UInt8)=>(uc (x23.toNat:Int)).bind fun r25=>y0f v1 v2 v3 (decide (r25=111))) else (y0f v1 v2 v3 false))
noncomputable def y4e (v1:Bs) (v2:Int) (v3:Int):Option (Int×Int):=
 if decide (v1=[]) then (some (0,2)) else (if ((decide (2≤v2)) && (decide (v2≤36))) then (Qn v1 v2 v3 v1 v2) else (if decide (v2=0) then ((v1[0]?).bind fun (x7:UInt8)=>if decide ((x7.toNat:Int)=48) then (if decide (3≤(v1.length:Int)) then ((v1[1]?).bind fun (x12:UInt8)=>(uc (x12.toNat:Int)).bind fun r14=>y0g v1 v2 v3 (decide (r14=98))) else (y0g v1 v2 v3 false)) else (Qn v1 v2 v3 v1 10)) else (some (0,3))))
noncomputable def y0j (v29:Int):Option (Int×Int):=
 some (v29,0)
noncomputable def y0k (v14:Bool) (r15:(Int×Int)) (v24:Int):Option (Int×Int):=
 if (0:Int)≤(IntKind.wrap .u64 (wr (v24 - 1))) then (if ((!v14) && (decide ((shl_ .u64 1 (IntKind.wrap .u64 (wr (v24 - 1))))≤r15.1))) then (some (IntKind.wrap .i64 (IntKind.wrap .u64 ((shl_ .u64 1 (IntKind.wrap .u64 (wr (v24 - 1)))) - 1)),1)) else (if (v14 && (decide ((shl_ .u64 1 (IntKind.wrap .u64 (wr (v24 - 1)))) < r15.1))) then (some ((wr (-(IntKind.wrap .i64 (shl_ .u64 1 (IntKind.wrap .u64 (wr (v24 - 1))))))),1)) else (if v14 then (y0j (wr (-(IntKind.wrap .i64 r15.1)))) else (y0j (IntKind.wrap .i64 r15.1))))) else none
noncomputable def y0l (v3:Int) (v14:Bool) (r15:(Int×Int)) (v21:Bool):Option (Int×Int):=
 if v21 then (some (0,r15.2)) else (if decide (v3=0) then (y0k v14 r15 64) else (y0k v14 r15 v3))
noncomputable def z5m (v2:Int) (v3:Int) (v13:Bs) (v14:Bool):Option (Int×Int):=
 (y4e v13 v2 v3).bind fun r15=>if decide (r15.2≠0) then (if (0:Int)≤r15.2∧r15.2≤(4:Int) then (y0l v3 v14 r15 (decide (r15.2≠1))) else none) else (y0l v3 v14 r15 false)
noncomputable def x0e (v1:Bs) (v2:Int) (v3:Int):Option (Int×Int):=
 if decide (v1=[]) then (some (0,2)) else ((v1[0]?).bind fun (x5:UInt8)=>if decide ((x5.toNat:Int)=43) then ((sub? v1 1 (v1.length:Int)).bind fun (l8:Bs)=>z5m v2 v3 l8 false) else (if decide ((x5.toNat:Int)=45) then ((sub? v1 1 (v1.length:Int)).bind fun (l11:Bs)=>z5m v2 v3 l11 true) else (z5m v2 v3 v1 false)))
noncomputable def z5n (k15:Nat) (x18:Int) (v14:Int):Option (Int ⊕ (Int×Int)):=
 if decide (9 < (IntKind.wrap .u8 (x18 - 48))) then (some (.inr (0,2))) else (some (.inl (wr ((wr (v14 * 10))+(IntKind.wrap .i64 (IntKind.wrap .u8 (x18 - 48)))))))
noncomputable def z19 (v23:Int):Option (Int×Int):=
 some (v23,0)
noncomputable def z2c (v1:Bs) (v14:Int):Option (Int×Int):=
 (v1[0]?).bind fun (x19:UInt8)=>if decide ((x19.toNat:Int)=45) then (if -9223372036854775807≤v14∧v14≤9223372036854775807 then (z19 (-v14)) else none) else (z19 v14)
noncomputable def z2b (v1:Bs) (v13:Bs):Option (Int×Int):=
 if (jd v13).length≤1000000000 then forL (fun (k:Nat) (x:Int) (s:Int)=>z5n k x s) (fun (s:Int)=>z2c v1 s) 0 (jd v13) 0 else none
noncomputable def z2a (v1:Bs) (v8:Bool):Option (Int×Int):=
 if v8 then ((sub? v1 1 (v1.length:Int)).bind fun (l10:Bs)=>if decide ((l10.length:Int) < 1) then (some (0,2)) else (z2b v1 l10)) else (z2b v1 v1)
noncomputable def z11 (v1:Bs):Option (Int×Int):=
 if ((false && ((decide (0 < (v1.length:Int))) && (decide ((v1.length:Int) < 10)))) || (true && ((decide (0 < (v1.length:Int))) && (decide ((v1.length:Int) < 19))))) then ((v1[0]?).bind fun (x3:UInt8)=>if decide ((x3.toNat:Int)=45) then (z2a v1 true) else (z2a v1 (decide ((x3.toNat:Int)=43)))) else ((x0e v1 10 0).bind fun r27=>some (r27.1,r27.2))
noncomputable def Wq (s1:Bs):Option (Int×Int):=
 (z11 s1).bind fun r2=>if decide (r2.2≠0) then ((y9x [65,116,111,105] s1 0 0 r2.2).bind fun r5=>some (r2.1,r5)) else (some (r2.1,0))
noncomputable def z91 (v29:Bool):Option (Unit ⊕ (Int×Bool)):=
 if v29 then (some (.inr (0,false))) else (some (.inl ()))
noncomputable def z90 (i18:Nat) (x21:UInt8):Option (Unit ⊕ (Int×Bool)):=
 if decide ((x21.toNat:Int) < 48) then (z91 true) else (z91 (decide (57 < (x21.toNat:Int))))
noncomputable def z5g (s1:Bs):Option (Int×Bool):=
 (Wq s1).bind fun r22=>some (r22.1,decide (r22.2=0))
noncomputable def uv (s1:Bs) (r3:(Bs)) (v16:Bool):Option (Int×Bool):=
 if v16 then (some (0,false)) else (if r3.length≤1000000000 then forL (fun (k:Nat) (x:UInt8) (s:Unit)=>z90 k x) (fun (s:Unit)=>z5g s1) 0 r3 () else none)
noncomputable def Wu (s1:Bs) (most2:Int):Option (Int×Bool):=
 (y3u s1 [45]).bind fun r3=>if decide (r3=[]) then (uv s1 r3 true) else (if decide (most2 < (r3.length:Int)) then (uv s1 r3 true) else ((r3[0]?).bind fun (x9:UInt8)=>if decide ((x9.toNat:Int)=48) then (uv s1 r3 (decide (s1≠[48]))) else (uv s1 r3 false)))
noncomputable def z87 (s1:Bs):Option (Int×Bool):=
 (Wu s1 9).bind fun r2=>some (r2.1,r2.2)
noncomputable def z1f (v19:Bool):Option (Bool):=
 some v19
noncomputable def z3z (v32:Bool):Option (Unit ⊕ (Bool)):=
 if v32 then (some (.inr false)) else (some (.inl ()))
noncomputable def y9h (k2:Nat) (x5:UInt8):Option (Unit ⊕ (Bool)):=
 (z84 (x5.toNat:Int)).bind fun r22=>if !r22 then ((z4u (x5.toNat:Int)).bind fun r26=>if !r26 then (z3z (decide ((x5.toNat:Int)≠45))) else (z3z false)) else (z3z false)
noncomputable def y9i (s1:Bs):Option (Bool):=
 if decide (s1≠[]) then (if decide ((s1.length:Int)≤63) then ((s1[0]?).bind fun (x10:UInt8)=>if decide ((x10.toNat:Int)≠45) then ((at? s1 (wr ((s1.length:Int) - 1))).bind fun (x14:UInt8)=>z1f (decide ((x14.toNat:Int)≠45))) else (z1f false)) else (z1f false)) else (z1f false)
noncomputable def y95 (s1:Bs):Option (Bool):=
 if s1.length≤1000000000 then forL (fun (k:Nat) (x:UInt8) (s:Unit)=>y9h k x) (fun (s:Unit)=>y9i s1) 0 s1 () else none
noncomputable def z1g (v23:Bool):Option (Bool):=
 some v23
noncomputable def y3i (k6:Nat) (x9:Bs):Option (Unit ⊕ (Bool)):=
 (y95 x9).bind fun r26=>if !r26 then (some (.inr false)) else (some (.inl ()))
noncomputable def y3j (s1:Bs) (r2:(Bs×Bs×Bool)):Option (Bool):=
 (z87 r2.2.1).bind fun r10=>if decide ((s1.length:Int)≤255) then (if !r2.2.2 then (z1g true) else (if r10.2 then ((ki r10.1 1 65535).bind fun r18=>z1g (!r18)) else (z1g false))) else (z1g false)
noncomputable def z4t (s1:Bs):Option (Bool):=
 (z1o s1 [58]).bind fun r2=>(kk r2.1 [46]).bind fun r4=>if r4.length≤1000000000 then forL (fun (k:Nat) (x:Bs) (s:Unit)=>y3i k x) (fun (s:Unit)=>y3j s1 r2) 0 r4 () else none
noncomputable def z3y (v13:Bool):Option (Unit ⊕ (Bool)):=
 if v13 then (some (.inr false)) else (some (.inl ()))
noncomputable def y3g (low2:Int) (high3:Int) (k4:Nat) (x7:UInt8):Option (Unit ⊕ (Bool)):=
 if decide ((x7.toNat:Int) < low2) then (z3y true) else (z3y (decide (high3 < (x7.toNat:Int))))
noncomputable def y3h:Option (Bool):=
 some true
noncomputable def z1x (s1:Bs) (low2:Int) (high3:Int):Option (Bool):=
 if s1.length≤1000000000 then forL (fun (k:Nat) (x:UInt8) (s:Unit)=>y3g low2 high3 k x) (fun (s:Unit)=>y3h) 0 s1 () else none
noncomputable def Wl (v17:Bool):Option (Int):=
 if v17 then some 3 else some 0
noncomputable def z1y (s1:Bs):Option (Int):=
 if decide (1000 < (s1.length:Int)) then (Wl true) else ((z1m s1 [47]).bind fun r4=>if !r4 then (Wl true) else ((z1x s1 33 126).bind fun r8=>if !r8 then (Wl true) else ((z8m s1 [63,35]).bind fun r12=>Wl r12)))
noncomputable def z1e (v12:Bool):Option (Int):=
 if v12 then some 3 else some 0
noncomputable def z8z (s1:Bs):Option (Int):=
 if decide (1000 < (s1.length:Int)) then (z1e true) else ((z1x s1 33 126).bind fun r4=>if !r4 then (z1e true) else ((y3w s1 [35]).bind fun r8=>z1e r8))
noncomputable def z7a (s14:Bs):Option (Bs):=
 some s14
noncomputable def z0z (s3:Bs) (v10:Bool):Option (Bs ⊕ (Bs)):=
 if v10 then ((sub? s3 0 (wr ((s3.length:Int) - 1))).bind fun (l12:Bs)=>some (.inl l12)) else (Option.map .inr (z7a s3))
noncomputable def z69 (c2:Int) (s3:Bs):Option (Bs ⊕ (Bs)):=
 if decide (0 < (s3.length:Int)) then ((at? s3 (wr ((s3.length:Int) - 1))).bind fun (x7:UInt8)=>z0z s3 (decide ((x7.toNat:Int)=c2))) else (z0z s3 false)
noncomputable def Wn (s1:Bs) (c2:Int):Option (Bs):=
 iter (fun (s:Bs)=>z69 c2 s) s1
noncomputable def z7c (s14:Bs):Option (Bs):=
 some s14
noncomputable def z00 (s3:Bs) (v10:Bool):Option (Bs ⊕ (Bs)):=
 if v10 then ((sub? s3 1 (s3.length:Int)).bind fun (l12:Bs)=>some (.inl l12)) else (Option.map .inr (z7c s3))
noncomputable def z7b (c2:Int) (s3:Bs):Option (Bs ⊕ (Bs)):=
 if decide (0 < (s3.length:Int)) then ((s3[0]?).bind fun (x7:UInt8)=>z00 s3 (decide ((x7.toNat:Int)=c2))) else (z00 s3 false)
noncomputable def z1k (s1:Bs) (c2:Int):Option (Bs):=
 iter (fun (s:Bs)=>z7b c2 s) s1
noncomputable def z3g (s1:Bs) (cutset2:Bs) (v9:Bool):Option (Bs):=
 if v9 then ((cutset2[0]?).bind fun (x11:UInt8)=>(Wn s1 (x11.toNat:Int)).bind fun r13=>(z1k r13 (x11.toNat:Int)).bind fun r15=>some r15) else none
noncomputable def z1l (s1:Bs) (cutset2:Bs):Option (Bs):=
 if ((decide (s1=[])) || (decide (cutset2=[]))) then some s1 else (if decide ((cutset2.length:Int)=1) then ((cutset2[0]?).bind fun (x6:UInt8)=>z3g s1 cutset2 (decide ((x6.toNat:Int) < 128))) else (z3g s1 cutset2 false))
noncomputable def z1i (v12:Bool):Option (Bool):=
 some v12
noncomputable def z1z (s1:Bs):Option (Bool):=
 if decide ((s1.length:Int)≤2000) then ((z1x s1 32 126).bind fun r4=>if r4 then ((z1l s1 [32]).bind fun r8=>z1i (decide (r8=s1))) else (z1i false)) else (z1i false)
noncomputable def y3o (k3:Nat) (x6:ql):Option (Unit ⊕ (Int)):=
 (Wt x6.Name).bind fun r9=>if !r9 then (some (.inr 5)) else ((z1z x6.Value).bind fun r12=>if !r12 then (some (.inr 3)) else (some (.inl ())))
noncomputable def y3p:Option (Int):=
 some 0
noncomputable def z4w (l1:(List ql)):Option (Int):=
 if decide (50 < (l1.length:Int)) then some 2 else (if l1.length≤1000000000 then forL (fun (k:Nat) (x:ql) (s:Unit)=>y3o k x) (fun (s:Unit)=>y3p) 0 l1 () else none)
noncomputable def Wm (r1:xl) (v25:Bool):Option (Int):=
 if v25 then some 3 else ((z4w r1.Headers).bind fun r27=>if decide (r27≠0) then some r27 else (if decide (20000 < (r1.Body.length:Int)) then some 2 else some 0))
noncomputable def z86 (r1:xl):Option (Int):=
 (Wv r1.At).bind fun r2=>if !r2 then some 1 else ((Wt r1.Method).bind fun r5=>if !r5 then some 5 else ((z4t r1.Host).bind fun r8=>if !r8 then (Wm r1 true) else ((z1y r1.Path).bind fun r12=>if decide (r12≠0) then (Wm r1 true) else ((z8z r1.Query).bind fun r16=>if decide (r16≠0) then (Wm r1 true) else ((z1z r1.From).bind fun r20=>Wm r1 (!r20))))))
noncomputable def z83 (h1:ql) (name2:Bs):Option (Bool):=
 (y3v h1.Name name2).bind fun r3=>some r3
noncomputable def z32 (out14:(List Bs)):Option ((List Bs) ⊕ ((List Bs))):=
 some (.inl out14)
noncomputable def z1h (name2:Bs) (k4:Nat) (x7:ql) (l3:(List Bs)):Option ((List Bs) ⊕ ((List Bs))):=
 (z83 x7 name2).bind fun r10=>if r10 then (if l3.length+1≤1000000000 then (z32 (l3++[x7.Value])) else none) else (z32 l3)
noncomputable def y3k (l3:(List Bs)):Option ((List Bs)):=
 some l3
noncomputable def uu (l1:(List ql)) (name2:Bs):Option ((List Bs)):=
 if l1.length≤1000000000 then forL (fun (k:Nat) (x:ql) (s:(List Bs))=>z1h name2 k x s) (fun (s:(List Bs))=>y3k s) 0 l1 [] else none
noncomputable def z97 (v8:Bool):Option (Bool):=
 some v8
noncomputable def x0a (s1:Bs) (v2:Bs):Option (Bool):=
 if decide ((v2.length:Int)≤(s1.length:Int)) then ((sub? s1 0 (v2.length:Int)).bind fun (l5:Bs)=>z97 (decide (l5=v2))) else (z97 false)
noncomputable def x0b (s1:Bs) (v2:Bs):Option (Bs×Bool):=
 (x0a s1 v2).bind fun r3=>if !r3 then (some (s1,false)) else ((sub? s1 (v2.length:Int) (s1.length:Int)).bind fun (l6:Bs)=>some (l6,true))
noncomputable def y9v (s1:Bs) (v2:Bs):Option (Bs×Bool):=
 (x0b s1 v2).bind fun r3=>some (r3.1,r3.2)
noncomputable def y9n (v1:Int):Option (Int):=
 (Wv v1).bind fun r2=>if !r2 then some 1 else some 0
noncomputable def y3s (x1:wh) (c2:(List Bs)):Option (Bool):=
 (c2[0]?).bind fun (x3:Bs)=>some (decide (x1.Id=x3))
noncomputable def y7i (x6:Int) (k11:Nat) (l10:(List Int)):Option ((List Int) ⊕ ((Bs×(List Int)) ⊕ (Bs))):=
 if (0:Int)≤(wr (18 - (wr (6 * (k11:Int))))) then ((at? [65,66,67,68,69,70,71,72,73,74,75,76,77,78,79,80,81,82,83,84,85,86,87,88,89,90,97,98,99,100,101,102,103,104,105,106,107,108,109,110,111,112,113,114,115,116,117,118,119,120,121,122,48,49,50,51,52,53,54,55,56,57,45,95] (and_ .i64 (shr_ .i64 x6 (wr (18 - (wr (6 * (k11:Int)))))) 63)).bind fun (x18:UInt8)=>if l10.length+1≤1000000000 then (some (.inl (l10++[(x18.toNat:Int)]))) else none) else none
noncomputable def y7l (s2:Bs) (l10:(List Int)):Option ((Bs×(List Int)) ⊕ (Bs)):=
 (sub? s2 (min 3 (s2.length:Int)) (s2.length:Int)).bind fun (l14:Bs)=>some (.inl (l14,l10))
noncomputable def z62 (x25:Int):Option (Int ⊕ ((Bs×(List Int)) ⊕ (Bs))):=
 some (.inl x25)
noncomputable def y7j (s2:Bs) (k7:Nat) (x6:Int):Option (Int ⊕ ((Bs×(List Int)) ⊕ (Bs))):=
 if decide ((k7:Int) < (min 3 (s2.length:Int))) then ((s2[k7]?).bind fun (x23:UInt8)=>z62 (or_ .i64 (shl_ .i64 x6 8) (IntKind.wrap .i64 (x23.toNat:Int)))) else (z62 (shl_ .i64 x6 8))
noncomputable def y7m (s2:Bs) (l3:(List Int)) (x6:Int):Option ((Bs×(List Int)) ⊕ (Bs)):=
 if (wr ((min 3 (s2.length:Int))+1))≤1000000000 then rng (fun (k:Nat) (s:(List Int))=>y7i x6 k s) (fun (s:(List Int))=>y7l s2 s) ((wr ((min 3 (s2.length:Int))+1)).toNat) 0 l3 else none
noncomputable def y18 (out26:(List Int)):Option (Bs):=
 some (strN out26)
noncomputable def y7k (s2:Bs) (l3:(List Int)):Option ((Bs×(List Int)) ⊕ (Bs)):=
 if decide (0 < (s2.length:Int)) then (if 3≤1000000000 then rng (fun (k:Nat) (s:Int)=>y7j s2 k s) (fun (s:Int)=>y7m s2 l3 s) 3 0 0 else none) else (Option.map .inr (y18 l3))
noncomputable def z4d (s1:Bs):Option (Bs):=
 iter (fun (s:Bs×(List Int))=>y7k s.1 s.2) (s1,[])
noncomputable def y7n (x6:Int) (k11:Nat) (l10:(List Int)):Option ((List Int) ⊕ ((Bs×(List Int)) ⊕ (Bs×Int))):=
 if (0:Int)≤(wr (16 - (wr (8 * (k11:Int))))) then (if l10.length+1≤1000000000 then (some (.inl (l10++[IntKind.wrap .u8 (shr_ .i64 x6 (wr (16 - (wr (8 * (k11:Int))))))]))) else none) else none
noncomputable def y7q (rest2:Bs) (l10:(List Int)):Option ((Bs×(List Int)) ⊕ (Bs×Int)):=
 (sub? rest2 (min 4 (rest2.length:Int)) (rest2.length:Int)).bind fun (l14:Bs)=>some (.inl (l14,l10))
noncomputable def z63 (x26:Int):Option (Int ⊕ ((Bs×(List Int)) ⊕ (Bs×Int))):=
 some (.inl x26)
noncomputable def y7o (rest2:Bs) (k7:Nat) (x6:Int):Option (Int ⊕ ((Bs×(List Int)) ⊕ (Bs×Int))):=
 if decide ((k7:Int) < (min 4 (rest2.length:Int))) then ((rest2[k7]?).bind fun (x21:UInt8)=>(z4i [65,66,67,68,69,70,71,72,73,74,75,76,77,78,79,80,81,82,83,84,85,86,87,88,89,90,97,98,99,100,101,102,103,104,105,106,107,108,109,110,111,112,113,114,115,116,117,118,119,120,121,122,48,49,50,51,52,53,54,55,56,57,45,95] (x21.toNat:Int)).bind fun r23=>if decide (r23 < 0) then (some (.inr (.inr ([],9)))) else (z63 (or_ .i64 (shl_ .i64 x6 6) r23))) else (z63 (shl_ .i64 x6 6))
noncomputable def y7r (rest2:Bs) (l3:(List Int)) (x6:Int):Option ((Bs×(List Int)) ⊕ (Bs×Int)):=
 if (wr ((min 4 (rest2.length:Int)) - 1))≤1000000000 then rng (fun (k:Nat) (s:(List Int))=>y7n x6 k s) (fun (s:(List Int))=>y7q rest2 s) ((wr ((min 4 (rest2.length:Int)) - 1)).toNat) 0 l3 else none
noncomputable def y19 (s1:Bs) (out27:(List Int)):Option (Bs×Int):=
 (z4d (strN out27)).bind fun r28=>if decide (r28≠s1) then (some ([],9)) else (some ((strN out27),0))
noncomputable def y7p (s1:Bs) (rest2:Bs) (l3:(List Int)):Option ((Bs×(List Int)) ⊕ (Bs×Int)):=
 if decide (0 < (rest2.length:Int)) then (if 4≤1000000000 then rng (fun (k:Nat) (s:Int)=>y7o rest2 k s) (fun (s:Int)=>y7r rest2 l3 s) 4 0 0 else none) else (Option.map .inr (y19 s1 l3))
noncomputable def y9t (s1:Bs):Option (Bs×Int):=
 iter (fun (s:Bs×(List Int))=>y7p s1 s.1 s.2) (s1,[])
noncomputable def y99 (s1:Bs):Option ((List Bs)×Bool):=
 (kk s1 [10]).bind fun r2=>(at? r2 (wr ((r2.length:Int) - 1))).bind fun (x4:Bs)=>if decide (x4=[]) then ((sub? r2 0 (wr ((r2.length:Int) - 1))).bind fun (l7:(List Bs))=>some (l7,true)) else (some (r2,false))
noncomputable def y8b (v2:Bs) (k3:Nat) (x6:Bs):Option (Unit ⊕ (Int)):=
 if decide (v2=x6) then (some (.inr (k3:Int))) else (some (.inl ()))
noncomputable def y8c:Option (Int):=
 some (-1)
noncomputable def z1p (s1:(List Bs)) (v2:Bs):Option (Int):=
 if s1.length≤1000000000 then forL (fun (k:Nat) (x:Bs) (s:Unit)=>y8b v2 k x) (fun (s:Unit)=>y8c) 0 s1 () else none
noncomputable def z4k (s1:(List Bs)) (v2:Bs):Option (Bool):=
 (z1p s1 v2).bind fun r3=>some (decide (0≤r3))
noncomputable def y97 (s1:Bs):Option ((List Bs)×Bool):=
 (kk s1 [32]).bind fun r2=>(z4k r2 []).bind fun r4=>some (r2,!r4)
noncomputable def z4b (s1:jg) (v2:Bs) (v3:Bool):Option ((List Bs)×jg):=
 if s1.bad_ then (some ([],s1)) else (if decide (s1.at_=(s1.lines_.length:Int)) then (some ([],(jg.mk s1.lines_ s1.ended_ s1.at_ v3))) else ((at? s1.lines_ s1.at_).bind fun (x6:Bs)=>(z1o x6 [32]).bind fun r8=>if decide (r8.1≠v2) then (some ([],(jg.mk s1.lines_ s1.ended_ s1.at_ v3))) else ((y97 r8.2.1).bind fun r11=>if ((!r11.2) || ((!s1.ended_) && (decide (s1.at_=(wr ((s1.lines_.length:Int) - 1)))))) then (some ([],(jg.mk s1.lines_ s1.ended_ s1.at_ true))) else (some (r11.1,(jg.mk s1.lines_ s1.ended_ (wr (s1.at_+1)) s1.bad_))))))
noncomputable def z6z (r4:((List Bs)×jg)) (c7:Int) (c8:Bool):Option (Bs×jg):=
 if decide ((r4.1.length:Int)≠1) then (some ([],(jg.mk r4.2.lines_ r4.2.ended_ c7 c8))) else ((r4.1[0]?).bind fun (x10:Bs)=>some (x10,(jg.mk r4.2.lines_ r4.2.ended_ c7 c8)))
noncomputable def z4a (s1:jg) (word2:Bs) (must3:Bool):Option (Bs×jg):=
 (z4b s1 word2 must3).bind fun r4=>if decide (1 < (r4.1.length:Int)) then (z6z r4 (wr (r4.2.at_ - 1)) true) else (z6z r4 r4.2.at_ r4.2.bad_)
noncomputable def z6y (r2:((List Bs)×jg)):Option (Int×Int×jg):=
 some (0,0,(jg.mk r2.2.lines_ r2.2.ended_ (wr (r2.2.at_ - 1)) true))
noncomputable def y9o (s1:jg):Option (Int×Int×jg):=
 (z4b s1 [116,105,109,101] true).bind fun r2=>if r2.2.bad_ then (some (0,0,r2.2)) else (if decide ((r2.1.length:Int)=2) then ((r2.1[0]?).bind fun (x6:Bs)=>(Wu x6 15).bind fun r8=>(r2.1[1]?).bind fun (x10:Bs)=>(Wu x10 15).bind fun r12=>if (r8.2 && r12.2) then (some (r8.1,r12.1,r2.2)) else (z6y r2)) else (z6y r2))
noncomputable def z9z (v16:Bool):Option (Unit ⊕ (Int)):=
 if v16 then (some (.inr 7)) else (some (.inl ()))
noncomputable def x0o (l1:(List Bs)) (k2:Nat) (x5:Bs):Option (Unit ⊕ (Int)):=
 (jw x5).bind fun r8=>if !r8 then (some (.inr 5)) else (if decide (0 < (k2:Int)) then ((at? l1 ((k2:Int) - 1)).bind fun (x13:Bs)=>z9z (Op.bytesLess x5 x13 || x5 == x13)) else (z9z false))
noncomputable def x0p:Option (Int):=
 some 0
noncomputable def y98 (l1:(List Bs)):Option (Int):=
 if l1.length≤1000000000 then forL (fun (k:Nat) (x:Bs) (s:Unit)=>x0o l1 k x) (fun (s:Unit)=>x0p) 0 l1 () else none
noncomputable def y8p (s2:(List Bs)) (k4:Nat) (x7:Bs):Option (Unit ⊕ (Bool)):=
 (s2[k4]?).bind fun (x10:Bs)=>if decide (x7≠x10) then (some (.inr false)) else (some (.inl ()))
noncomputable def y8q:Option (Bool):=
 some true
noncomputable def z8n (s1:(List Bs)) (s2:(List Bs)):Option (Bool):=
 if decide ((s1.length:Int)≠(s2.length:Int)) then some false else (if s1.length≤1000000000 then forL (fun (k:Nat) (x:Bs) (s:Unit)=>y8p s2 k x) (fun (s:Unit)=>y8q) 0 s1 () else none)
noncomputable def Wc (v1:qg) (v22:Bool):Option (Int):=
 if v22 then some 5 else (if decide (50 < (v1.Audience.length:Int)) then some 2 else ((y98 v1.Audience).bind fun r25=>if decide (r25≠0) then some r25 else ((Qh v1.Scopes).bind fun r28=>if decide (r28≠0) then some r28 else ((z1j v1.Scopes).bind fun r31=>(z8n v1.Scopes r31).bind fun r33=>if !r33 then some 7 else (if (((decide (v1.From < 0)) || (decide (v1.To≤v1.From))) || (decide (345686400000 < v1.To))) then some 1 else some 0)))))
noncomputable def y9u (v1:qg):Option (Int):=
 (jw v1.Id).bind fun r2=>if !r2 then (Wc v1 true) else ((jw v1.Subject).bind fun r6=>if !r6 then (Wc v1 true) else ((jw v1.Issuer).bind fun r10=>if !r10 then (Wc v1 true) else (if decide (v1.Parent≠[]) then ((jw v1.Parent).bind fun r16=>Wc v1 (!r16)) else (Wc v1 false))))
noncomputable def y9r (v1:Bs):Option (qg×Int×Int):=
 if decide (4000 < (v1.length:Int)) then (some ((qg.mk [] [] [] [] [] [] 0 0),0,2)) else ((y99 v1).bind fun r3=>(z4a (jg.mk r3.1 r3.2 0 false) [105,100] true).bind fun r5=>(z4a r5.2 [115,117,98,106,101,99,116] true).bind fun r7=>(z4a r7.2 [105,115,115,117,101,114] true).bind fun r9=>(z4a r9.2 [112,97,114,101,110,116] false).bind fun r11=>(z4b r11.2 [102,111,114] false).bind fun r13=>(z4b r13.2 [109,97,121] false).bind fun r15=>(y9o r15.2).bind fun r17=>if (r17.2.2.bad_ || (decide (r17.2.2.at_ < (r17.2.2.lines_.length:Int)))) then (some ((qg.mk [] [] [] [] [] [] 0 0),r17.2.2.at_,9)) else ((y9u (qg.mk r5.1 r7.1 r9.1 r11.1 r13.1 r15.1 r17.1 r17.2.1)).bind fun r20=>if decide (r20≠0) then (some ((qg.mk [] [] [] [] [] [] 0 0),0,r20)) else (some ((qg.mk r5.1 r7.1 r9.1 r11.1 r13.1 r15.1 r17.1 r17.2.1),0,0))))
noncomputable def z60 (r40:(qg×Int×Int)) (v46:Bool):Option (qg×Int):=
 if v46 then (some ((qg.mk [] [] [] [] [] [] 0 0),11)) else (some (r40.1,0))
noncomputable def z61 (v1:(List wh)) (v3:Int) (r10:((List Bs))) (v19:Bool):Option (qg×Int):=
 if v19 then (some ((qg.mk [] [] [] [] [] [] 0 0),9)) else ((y31 v1 (fun (a0:wh)=>y3s a0 r10)).bind fun r21=>if decide (r21 < 0) then (some ((qg.mk [] [] [] [] [] [] 0 0),8)) else ((at? v1 r21).bind fun (x24:wh)=>(r10[0]?).bind fun (x26:Bs)=>if x26.length+[46].length≤1000000000 then ((r10[1]?).bind fun (x29:Bs)=>if (x26++[46]).length+x29.length≤1000000000 then ((xg x24.Secret ((x26++[46])++x29)).bind fun r32=>(r10[2]?).bind fun (x34:Bs)=>if decide (r32≠x34) then (some ((qg.mk [] [] [] [] [] [] 0 0),15)) else ((y9t x29).bind fun r37=>if decide (r37.2≠0) then (some ((qg.mk [] [] [] [] [] [] 0 0),r37.2)) else ((y9r r37.1).bind fun r40=>if decide (r40.2.2≠0) then (some ((qg.mk [] [] [] [] [] [] 0 0),r40.2.2)) else (if decide (v3 < x24.From) then (z60 r40 true) else (z60 r40 (decide (x24.Until≤v3))))))) else none) else none))
noncomputable def y9s (v1:(List wh)) (v2:Bs) (v3:Int):Option (qg×Int):=
 (z4e v1).bind fun r4=>if decide (r4≠0) then (some ((qg.mk [] [] [] [] [] [] 0 0),r4)) else ((y9n v3).bind fun r7=>if decide (r7≠0) then (some ((qg.mk [] [] [] [] [] [] 0 0),r7)) else ((kk v2 [46]).bind fun r10=>if decide ((r10.length:Int)≠3) then (z61 v1 v3 r10 true) else ((r10[0]?).bind fun (x14:Bs)=>(jw x14).bind fun r16=>z61 v1 v3 r10 (!r16))))
noncomputable def y8h (p1:va→Option (Bool)) (k2:Nat) (x5:va):Option (Unit ⊕ (Int)):=
 (p1 x5).bind fun r8=>if r8 then (some (.inr (k2:Int))) else (some (.inl ()))
noncomputable def y8i:Option (Int):=
 some (-1)
noncomputable def y9z (s1:(List va)) (p1:va→Option (Bool)):Option (Int):=
 if s1.length≤1000000000 then forL (fun (k:Nat) (x:va) (s:Unit)=>y8h p1 k x) (fun (s:Unit)=>y8i) 0 s1 () else none
noncomputable def y90 (s1:(List va)) (p1:va→Option (Bool)):Option (Bool):=
 (y9z s1 p1).bind fun r2=>some (decide (0≤r2))
noncomputable def y3r (r1:va) (c2:qg) (c3:Int):Option (Bool):=
 some (((decide (r1.Id=c2.Id)) || (decide (r1.Id=c2.Parent))) && (decide (r1.At≤c3)))
noncomputable def z3b (v1:jm) (v3:Int) (r4:(qg×Int)) (v15:Bool):Option (qg×Int):=
 if v15 then (some ((qg.mk [] [] [] [] [] [] 0 0),16)) else (if ((decide (v3 < (wr (r4.1.From - v1.Skew)))) || (decide ((wr (r4.1.To+v1.Skew))≤v3))) then (some ((qg.mk [] [] [] [] [] [] 0 0),11)) else ((y90 v1.Revoked (fun (a0:va)=>y3r a0 r4.1 v3)).bind fun r18=>if r18 then (some ((qg.mk [] [] [] [] [] [] 0 0),13)) else (some (r4.1,0))))
noncomputable def y9q (v1:jm) (v2:Bs) (v3:Int):Option (qg×Int):=
 (y9s v1.Signers v2 v3).bind fun r4=>if decide (r4.2≠0) then (some ((qg.mk [] [] [] [] [] [] 0 0),r4.2)) else (if decide (r4.1.Issuer≠v1.Issuer) then (z3b v1 v3 r4 true) else (if decide (0 < (r4.1.Audience.length:Int)) then ((z4k r4.1.Audience v1.Audience).bind fun r11=>z3b v1 v3 r4 (!r11)) else (z3b v1 v3 r4 false)))
noncomputable def y9p (k1:jm) (value2:Bs) (v3:Int):Option (wn×Int):=
 (y9v value2 [66,101,97,114,101,114,32]).bind fun r4=>if ((!r4.2) || (decide (r4.1=[]))) then (some ((wn.mk 0 [] []),9)) else ((y9q k1 r4.1 v3).bind fun r7=>if decide (r7.2≠0) then (some ((wn.mk 0 [] []),r7.2)) else (some ((wn.mk 1 r7.1.Subject r7.1.Scopes),0)))
noncomputable def z0v (v24:Bool) (l25:(List Bs)) (c26:Int) (c27:Bs):Option ((Bool×(List Bs)×Int×Bs) ⊕ (wn×Int)):=
 some (.inl (v24,l25,c26,c27))
noncomputable def z0u (v3:Int) (r4:(Bs)) (k10:Nat) (x13:vi) (v6:Bool) (l7:(List Bs)) (c8:Int) (c9:Bs):Option ((Bool×(List Bs)×Int×Bs) ⊕ (wn×Int)):=
 if decide (x13.Sum≠r4) then (z0v v6 l7 c8 c9) else (if (((decide (x13.From≤v3)) && (decide (v3 < x13.To))) && ((decide (c8=0)) || (decide (c9=x13.App)))) then (if l7.length+x13.Scopes.length≤1000000000 then (z0v true (l7++x13.Scopes) 2 x13.App) else none) else (z0v true l7 c8 c9))
noncomputable def z3a (v6:Bool) (l7:(List Bs)) (c8:Int) (c9:Bs):Option (wn×Int):=
 if !v6 then (some ((wn.mk 0 [] []),8)) else (if decide (c8=0) then (some ((wn.mk 0 [] []),11)) else ((z1j l7).bind fun r16=>if decide (50 < (r16.length:Int)) then (some ((wn.mk 0 [] []),2)) else (some ((wn.mk c8 c9 r16),0))))
noncomputable def z4c (v1:jm) (v2:Bs) (v3:Int):Option (wn×Int):=
 (xg v1.Issuer v2).bind fun r4=>if v1.Holders.length≤1000000000 then forL (fun (k:Nat) (x:vi) (s:Bool×(List Bs)×Int×Bs)=>z0u v3 r4 k x s.1 s.2.1 s.2.2.1 s.2.2.2) (fun (s:Bool×(List Bs)×Int×Bs)=>z3a s.1 s.2.1 s.2.2.1 s.2.2.2) 0 v1.Holders (false,([]:List Bs),0,[]) else none
noncomputable def z4g (v1:jm) (v2:xl):Option (wn×Int):=
 (z4f v1).bind fun r3=>if decide (r3≠0) then (some ((wn.mk 0 [] []),r3)) else ((z86 v2).bind fun r6=>if decide (r6≠0) then (some ((wn.mk 0 [] []),r6)) else ((uu v2.Headers [97,117,116,104,111,114,105,122,97,116,105,111,110]).bind fun r9=>(uu v2.Headers [120,45,97,112,105,45,107,101,121]).bind fun r11=>if ((decide (1 < (r9.length:Int))) || (decide (1 < (r11.length:Int)))) then (some ((wn.mk 0 [] []),6)) else (if ((decide ((r9.length:Int)=1)) && (decide ((r11.length:Int)=1))) then (some ((wn.mk 0 [] []),13)) else (if decide ((r9.length:Int)=1) then ((r9[0]?).bind fun (x16:Bs)=>(y9p v1 x16 v2.At).bind fun r18=>some (r18.1,r18.2)) else (if decide ((r11.length:Int)=1) then ((r11[0]?).bind fun (x21:Bs)=>(z4c (jm.mk v1.Issuer v1.Audience v1.Signers v1.Revoked v1.Holders v1.Skew) x21 v2.At).bind fun r23=>some (r23.1,r23.2)) else (some ((wn.mk 0 [] []),0)))))))
noncomputable def y3x (l1:(List Int)) (c2:Int):Option (Int×(List Int)):=
 if l1.length+1≤1000000000 then (some (0,(l1++[c2]))) else none
noncomputable def y4d (c1:Int):Option (Bool):=
 (z4u c1).bind fun r2=>some ((r2 || ((decide (97≤c1)) && (decide (c1≤102)))) || ((decide (65≤c1)) && (decide (c1≤70))))
noncomputable def z3w (v17:Bool):Option (Bool):=
 some v17
noncomputable def y94 (s1:Bs) (v2:Int):Option (Bool):=
 if decide ((wr (v2+2)) < (s1.length:Int)) then ((at? s1 (wr (v2+1))).bind fun (x5:UInt8)=>(y4d (x5.toNat:Int)).bind fun r7=>if r7 then ((at? s1 (wr (v2+2))).bind fun (x11:UInt8)=>(y4d (x11.toNat:Int)).bind fun r13=>z3w r13) else (z3w false)) else (z3w false)
noncomputable def y9y (s1:Bs) (base2:Int) (bitSize3:Int):Option (Int×Int):=
 (y4e s1 base2 bitSize3).bind fun r4=>if decide (r4.2≠0) then ((y9x [80,97,114,115,101,85,105,110,116] s1 base2 bitSize3 r4.2).bind fun r7=>some (r4.1,r7)) else (some (r4.1,0))
noncomputable def y92 (s1:Bs) (v2:Int):Option (Int):=
 (sub? s1 (wr (v2+1)) (wr (v2+3))).bind fun (l3:Bs)=>(y9y l3 16 8).bind fun r5=>if decide (r5.2≠0) then some 0 else (some (IntKind.wrap .u8 r5.1))
noncomputable def z30 (v14:Bool):Option (Bool):=
 some v14
noncomputable def y96 (c1:Int):Option (Bool):=
 (z84 c1).bind fun r2=>if r2 then (z30 true) else ((z4u c1).bind fun r6=>if r6 then (z30 true) else ((z4i [45,46,95,126] c1).bind fun r10=>z30 (decide (0≤r10))))
noncomputable def y93 (c1:Int):Option (Bs):=
 (at? [48,49,50,51,52,53,54,55,56,57,65,66,67,68,69,70] (shr_ .u8 c1 4)).bind fun (x2:UInt8)=>(at? [48,49,50,51,52,53,54,55,56,57,65,66,67,68,69,70] (and_ .u8 c1 15)).bind fun (x4:UInt8)=>some (strN [37,(x2.toNat:Int),(x4.toNat:Int)])
noncomputable def y9w (l1:(List Int)) (s2:Bs):Option (Int×Int×(List Int)):=
 if l1.length+s2.length≤1000000000 then (some ((s2.length:Int),0,(l1++jd s2))) else none
noncomputable def z7y (i26:Int) (l27:(List Int)):Option ((Int×(List Int)) ⊕ (Bs×Bool)):=
 some (.inl (wr (i26+1),l27))
noncomputable def z7x (i2:Int) (l25:(List Int)):Option ((Int×(List Int)) ⊕ (Bs×Bool)):=
 z7y (wr (i2+2)) l25
noncomputable def y3f (l28:(List Int)):Option (Bs×Bool):=
 if byR l28=true then (some ((strN l28),true)) else none
noncomputable def y9g (s1:Bs) (i2:Int) (l3:(List Int)):Option ((Int×(List Int)) ⊕ (Bs×Bool)):=
 if decide (i2 < (s1.length:Int)) then ((at? s1 i2).bind fun (x6:UInt8)=>if decide ((x6.toNat:Int)≠37) then ((y3x l3 (x6.toNat:Int)).bind fun r9=>z7y i2 r9.2) else ((y94 s1 i2).bind fun r11=>if !r11 then (some (.inr ([],false))) else ((y92 s1 i2).bind fun r14=>(y96 r14).bind fun r16=>if r16 then ((y3x l3 r14).bind fun r19=>z7x i2 r19.2) else ((y93 r14).bind fun r21=>(y9w l3 r21).bind fun r23=>z7x i2 r23.2.2)))) else (Option.map .inr (y3f l3))
noncomputable def z81 (s1:Bs):Option (Bs×Bool):=
 iter (fun (s:Int×(List Int))=>y9g s1 s.1 s.2) (0,([]:List Int))
noncomputable def z35 (out29:(List Bs)):Option ((List Bs) ⊕ (Bs×Int)):=
 some (.inl out29)
noncomputable def z7z (r10:((List Bs))) (k13:Nat) (out26:(List Bs)):Option ((List Bs) ⊕ (Bs×Int)):=
 if decide ((k13:Int)=(wr ((r10.length:Int) - 1))) then (if out26.length+1≤1000000000 then (z35 (out26++([[]]))) else none) else (z35 out26)
noncomputable def y3l (r10:((List Bs))) (k13:Nat) (x16:Bs) (l12:(List Bs)):Option ((List Bs) ⊕ (Bs×Int)):=
 if decide (x16=[46]) then (z7z r10 k13 l12) else (if decide (x16=[46,46]) then (if (0:Int)≤(max (wr ((l12.length:Int) - 1)) 0)∧(max (wr ((l12.length:Int) - 1)) 0)≤(l12.length:Int) then (z7z r10 k13 (l12.take (max (wr ((l12.length:Int) - 1)) 0).toNat)) else none) else (if l12.length+1≤1000000000 then (z35 (l12++[x16])) else none))
noncomputable def y3m (l12:(List Bs)):Option (Bs×Int):=
 (z4h l12 [47]).bind fun r17=>if [47].length+r17.length≤1000000000 then (some (([47]++r17),0)) else none
noncomputable def z4v (s1:Bs):Option (Bs×Int):=
 (z1y s1).bind fun r2=>if decide (r2≠0) then (some ([],r2)) else ((z81 s1).bind fun r5=>if !r5.2 then (some ([],9)) else ((sub? r5.1 1 (r5.1.length:Int)).bind fun (l8:Bs)=>(kk l8 [47]).bind fun r10=>if r10.length≤1000000000 then forL (fun (k:Nat) (x:Bs) (s:(List Bs))=>y3l r10 k x s) (fun (s:(List Bs))=>y3m s) 0 r10 [] else none))
noncomputable def z6j (x6:jn) (v17:Bool):Option (Unit ⊕ (Int)):=
 if v17 then (some (.inr 7)) else ((ki x6.Weight 1 100).bind fun r19=>if r19 then (some (.inr 1)) else (some (.inl ())))
noncomputable def y6i (l1:(List jn)) (k3:Nat) (x6:jn):Option (Unit ⊕ (Int)):=
 (jw x6.Key).bind fun r9=>if !r9 then (some (.inr 5)) else (if decide (0 < (k3:Int)) then ((at? l1 ((k3:Int) - 1)).bind fun (x14:jn)=>z6j x6 (Op.bytesLess x6.Key x14.Key || x6.Key == x14.Key)) else (z6j x6 false))
noncomputable def y6j:Option (Int):=
 some 0
noncomputable def y9m (l1:(List jn)):Option (Int):=
 if decide (50 < (l1.length:Int)) then some 2 else (if l1.length≤1000000000 then forL (fun (k:Nat) (x:jn) (s:Unit)=>y6i l1 k x) (fun (s:Unit)=>y6j) 0 l1 () else none)
noncomputable def y6c (k3:Nat) (x6:jn) (sum2:Int):Option (Int ⊕ (Int)):=
 some (.inl (wr (sum2+x6.Weight)))
noncomputable def y6d (sum2:Int):Option (Int):=
 some sum2
noncomputable def y9l (l1:(List jn)):Option (Int):=
 if l1.length≤1000000000 then forL (fun (k:Nat) (x:jn) (s:Int)=>y6c k x s) (fun (s:Int)=>y6d s) 0 l1 0 else none
noncomputable def z6i (v39:Int) (v40:(List Int)):Option ((Int×(List Int)) ⊕ (((List Int)×(List Bs)) ⊕ ((List Bs)×Int))):=
 some (.inl (v39,v40))
noncomputable def y6e (k21:Nat) (x24:jn) (v19:Int) (l20:(List Int)):Option ((Int×(List Int)) ⊕ (((List Int)×(List Bs)) ⊕ ((List Bs)×Int))):=
 (l20[k21]?).bind fun (x32:Int)=>((l20.set k21 (wr (x32+x24.Weight)))[k21]?).bind fun (x34:Int)=>(at? (l20.set k21 (wr (x32+x24.Weight))) v19).bind fun (x36:Int)=>if decide (x36 < x34) then (z6i (k21:Int) (l20.set k21 (wr (x32+x24.Weight)))) else (z6i v19 (l20.set k21 (wr (x32+x24.Weight))))
noncomputable def y6g (v1:(List jn)) (r11:(Int)) (l14:(List Bs)) (v19:Int) (l20:(List Int)):Option (((List Int)×(List Bs)) ⊕ ((List Bs)×Int)):=
 (at? l20 v19).bind fun (x25:Int)=>(at? v1 v19).bind fun (x27:jn)=>if l14.length+1≤1000000000 then (some (.inl ((l20.set v19.toNat (wr (x25 - r11))),(l14++[x27.Key])))) else none
noncomputable def y6f (v1:(List jn)) (r11:(Int)) (k15:Nat) (l13:(List Int)) (l14:(List Bs)):Option (((List Int)×(List Bs)) ⊕ ((List Bs)×Int)):=
 if v1.length≤1000000000 then forL (fun (k:Nat) (x:jn) (s:Int×(List Int))=>y6e k x s.1 s.2) (fun (s:Int×(List Int))=>y6g v1 r11 l14 s.1 s.2) 0 v1 (0,l13) else none
noncomputable def y6h (l13:(List Int)) (l14:(List Bs)):Option ((List Bs)×Int):=
 some (l14,0)
noncomputable def y3q (v1:(List jn)) (v2:Int):Option ((List Bs)×Int):=
 (y9m v1).bind fun r3=>if decide (r3≠0) then (some ([],r3)) else ((ki v2 0 2000).bind fun r6=>if r6 then (some ([],1)) else (if decide ((v1.length:Int)=0) then (some ([],8)) else (if v1.length≤1000000000 then ((y9l v1).bind fun r11=>if v2≤1000000000 then rng (fun (k:Nat) (s:(List Int)×(List Bs))=>y6f v1 r11 k s.1 s.2) (fun (s:(List Int)×(List Bs))=>y6h s.1 s.2) v2.toNat 0 ((List.replicate v1.length 0),[]) else none) else none)))
noncomputable def z85 (a1:xa):Option (Int):=
 (ki a1.Status 100 599).bind fun r2=>if r2 then some 1 else ((z4w a1.Headers).bind fun r5=>if decide (r5≠0) then some r5 else (if decide (20000 < (a1.Body.length:Int)) then some 2 else some 0))
noncomputable def z9u  : Option ((List Bs)×(List Int)):=
 some ([[109,97,120,45,97,103,101],[115,45,109,97,120,97,103,101],[115,116,97,108,101,45,119,104,105,108,101,45,114,101,118,97,108,105,100,97,116,101],[115,116,97,108,101,45,105,102,45,101,114,114,111,114],[109,97,120,45,115,116,97,108,101],[109,105,110,45,102,114,101,115,104]],([6,7,8,9,10,11]:List Int))
noncomputable def Qf (out22:(List Bs)):Option ((List Bs) ⊕ ((List Bs) ⊕ ((List Bs)))):=
 some (.inl out22)
noncomputable def Qd (k12:Nat) (x15:Bs) (l11:(List Bs)):Option ((List Bs) ⊕ ((List Bs) ⊕ ((List Bs)))):=
 (z1l x15 [32]).bind fun r18=>if decide (r18≠[]) then (if l11.length+1≤1000000000 then (Qf (l11++[r18])) else none) else (Qf l11)
noncomputable def z33 (l11:(List Bs)):Option ((List Bs) ⊕ ((List Bs))):=
 some (.inl l11)
noncomputable def Qe (k3:Nat) (x6:Bs) (l2:(List Bs)):Option ((List Bs) ⊕ ((List Bs))):=
 (kk x6 [44]).bind fun r9=>if r9.length≤1000000000 then forL (fun (k:Nat) (x:Bs) (s:(List Bs))=>Qd k x s) (fun (s:(List Bs))=>z33 s) 0 r9 l2 else none
noncomputable def z34 (l2:(List Bs)):Option ((List Bs)):=
 some l2
noncomputable def Ws (values1:(List Bs)):Option ((List Bs)):=
 if values1.length≤1000000000 then forL (fun (k:Nat) (x:Bs) (s:(List Bs))=>Qe k x s) (fun (s:(List Bs))=>z34 s) 0 values1 [] else none
noncomputable def z6b (r2:(Int×Bool)) (v9:Bool):Option (Int×Bool):=
 some (r2.1,v9)
noncomputable def z9t (s1:Bs):Option (Int×Bool):=
 (z87 s1).bind fun r2=>if r2.2 then ((ki r2.1 0 100000000).bind fun r6=>z6b r2 (!r6)) else (z6b r2 false)
noncomputable def y4m  : Option ((List Bs)×(List Int)):=
 some ([[110,111,45,115,116,111,114,101],[110,111,45,99,97,99,104,101],[112,114,105,118,97,116,101],[112,117,98,108,105,99],[109,117,115,116,45,114,101,118,97,108,105,100,97,116,101],[111,110,108,121,45,105,102,45,99,97,99,104,101,100]],([0,1,2,3,4,5]:List Int))
noncomputable def z6a (r3:(Bs×Bs×Bool)) (c41:Bool) (c42:Bool) (c43:Bool) (c44:Bool) (c45:Bool) (c46:Bool) (c47:Int) (c48:Int) (c49:Int) (c50:Int) (c51:Int) (c52:Int):Option (Bool×qo):=
 some (r3.2.2,(qo.mk c41 c42 c43 c44 c45 c46 c47 c48 c49 c50 c51 c52))
noncomputable def z58 (s1:qo) (r3:(Bs×Bs×Bool)) (r5:(Int×Bool)) (r22:((List Bs)×(List Int))) (r24:(Int)) (v34:Bool):Option (Bool×qo):=
 if v34 then ((at? r22.2 r24).bind fun (x36:Int)=>if Qp x36=true then ((some (y2l s1 x36 r5.1)).bind fun (c39:qo)=>z6a r3 c39.NoStore c39.NoCache c39.Private c39.Public c39.Must c39.Only c39.MaxAge c39.Shared c39.Stale c39.OnError c39.MaxStale c39.MinFresh) else none) else (z6a r3 s1.NoStore s1.NoCache s1.Private s1.Public s1.Must s1.Only s1.MaxAge s1.Shared s1.Stale s1.OnError s1.MaxStale s1.MinFresh)
noncomputable def z48 (s1:qo) (v2:Bs):Option (Bool×qo):=
 (z1o v2 [61]).bind fun r3=>(z9t r3.2.1).bind fun r5=>(Wt r3.1).bind fun r7=>if ((!r7) || (r3.2.2 && (!r5.2))) then (some (false,s1)) else ((Qi r3.1).bind fun r10=>(y4m).bind fun r12=>(z1p r12.1 r10).bind fun r14=>if decide (0≤r14) then ((at? r12.2 r14).bind fun (x17:Int)=>if y53 x17=true then ((some (y74 s1 x17 true)).bind fun (c20:qo)=>some (!r3.2.2,c20)) else none) else ((z9u).bind fun r22=>(z1p r22.1 r10).bind fun r24=>if decide (r24 < 0) then (some (true,s1)) else ((at? r22.2 r24).bind fun (x27:Int)=>if Qp x27=true then (if decide ((z0b s1 x27)=(-1)) then (z58 s1 r3 r5 r22 r24 true) else (if Qp x27=true then (z58 s1 r3 r5 r22 r24 (decide (r5.1 < (z0b s1 x27)))) else none)) else none)))
noncomputable def z2n (k36:Nat) (x39:Bs) (c24:Bool) (c25:Bool) (c26:Int) (c27:Int) (c28:Bool) (c29:Bool) (c30:Bool) (c31:Bool) (c32:Int) (c33:Int) (c34:Int) (c35:Int):Option ((Bool×Bool×Int×Int×Bool×Bool×Bool×Bool×Int×Int×Int×Int) ⊕ (qo×Int)):=
 (z48 (qo.mk c24 c25 c28 c29 c30 c31 c32 c33 c34 c35 c26 c27) x39).bind fun r42=>if !r42.1 then (some (.inr ((qo.mk false false false false false false 0 0 0 0 0 0),9))) else (some (.inl (r42.2.NoStore,r42.2.NoCache,r42.2.MaxStale,r42.2.MinFresh,r42.2.Private,r42.2.Public,r42.2.Must,r42.2.Only,r42.2.MaxAge,r42.2.Shared,r42.2.Stale,r42.2.OnError)))
noncomputable def x2k (c24:Bool) (c25:Bool) (c26:Int) (c27:Int) (c28:Bool) (c29:Bool) (c30:Bool) (c31:Bool) (c32:Int) (c33:Int) (c34:Int) (c35:Int):Option (qo×Int):=
 some ((qo.mk c24 c25 c28 c29 c30 c31 c32 c33 c34 c35 c26 c27),0)
noncomputable def x2j (k16:Nat) (x19:Int) (c4:Bool) (c5:Bool) (c6:Int) (c7:Int) (c8:Bool) (c9:Bool) (c10:Bool) (c11:Bool) (c12:Int) (c13:Int) (c14:Int) (c15:Int):Option ((Bool×Bool×Int×Int×Bool×Bool×Bool×Bool×Int×Int×Int×Int) ⊕ (qo×Int)):=
 if Qp x19=true then ((some (y2l (qo.mk c4 c5 c8 c9 c10 c11 c12 c13 c14 c15 c6 c7) x19 (-1))).bind fun (c48:qo)=>some (.inl (c48.NoStore,c48.NoCache,c48.MaxStale,c48.MinFresh,c48.Private,c48.Public,c48.Must,c48.Only,c48.MaxAge,c48.Shared,c48.Stale,c48.OnError))) else none
noncomputable def y00 (l1:(List ql)) (c4:Bool) (c5:Bool) (c6:Int) (c7:Int) (c8:Bool) (c9:Bool) (c10:Bool) (c11:Bool) (c12:Int) (c13:Int) (c14:Int) (c15:Int):Option (qo×Int):=
 (uu l1 [99,97,99,104,101,45,99,111,110,116,114,111,108]).bind fun r20=>(Ws r20).bind fun r22=>if r22.length≤1000000000 then forL (fun (k:Nat) (x:Bs) (s:Bool×Bool×Int×Int×Bool×Bool×Bool×Bool×Int×Int×Int×Int)=>z2n k x s.1 s.2.1 s.2.2.1 s.2.2.2.1 s.2.2.2.2.1 s.2.2.2.2.2.1 s.2.2.2.2.2.2.1 s.2.2.2.2.2.2.2.1 s.2.2.2.2.2.2.2.2.1 s.2.2.2.2.2.2.2.2.2.1 s.2.2.2.2.2.2.2.2.2.2.1 s.2.2.2.2.2.2.2.2.2.2.2) (fun (s:Bool×Bool×Int×Int×Bool×Bool×Bool×Bool×Int×Int×Int×Int)=>x2k s.1 s.2.1 s.2.2.1 s.2.2.2.1 s.2.2.2.2.1 s.2.2.2.2.2.1 s.2.2.2.2.2.2.1 s.2.2.2.2.2.2.2.1 s.2.2.2.2.2.2.2.2.1 s.2.2.2.2.2.2.2.2.2.1 s.2.2.2.2.2.2.2.2.2.2.1 s.2.2.2.2.2.2.2.2.2.2.2) 0 r22 (c4,c5,c6,c7,c8,c9,c10,c11,c12,c13,c14,c15) else none
noncomputable def z5a (l1:(List ql)):Option (qo×Int):=
 (z9u).bind fun r2=>if r2.2.length≤1000000000 then forL (fun (k:Nat) (x:Int) (s:Bool×Bool×Int×Int×Bool×Bool×Bool×Bool×Int×Int×Int×Int)=>x2j k x s.1 s.2.1 s.2.2.1 s.2.2.2.1 s.2.2.2.2.1 s.2.2.2.2.2.1 s.2.2.2.2.2.2.1 s.2.2.2.2.2.2.2.1 s.2.2.2.2.2.2.2.2.1 s.2.2.2.2.2.2.2.2.2.1 s.2.2.2.2.2.2.2.2.2.2.1 s.2.2.2.2.2.2.2.2.2.2.2) (fun (s:Bool×Bool×Int×Int×Bool×Bool×Bool×Bool×Int×Int×Int×Int)=>y00 l1 s.1 s.2.1 s.2.2.1 s.2.2.2.1 s.2.2.2.2.1 s.2.2.2.2.2.1 s.2.2.2.2.2.2.1 s.2.2.2.2.2.2.2.1 s.2.2.2.2.2.2.2.2.1 s.2.2.2.2.2.2.2.2.2.1 s.2.2.2.2.2.2.2.2.2.2.1 s.2.2.2.2.2.2.2.2.2.2.2) 0 r2.2 (false,false,0,0,false,false,false,false,0,0,0,0) else none
noncomputable def x2i (k7:Nat) (l6:(List Bs)):Option ((List Bs) ⊕ ((List Bs)×Bool×Int)):=
 (l6[k7]?).bind fun (x17:Bs)=>(Wt x17).bind fun r19=>if !r19 then (some (.inr ([],false,9))) else ((Qi x17).bind fun r22=>some (.inl (l6.set k7 r22)))
noncomputable def y0z (l6:(List Bs)):Option ((List Bs)×Bool×Int):=
 (z4k l6 [42]).bind fun r10=>if r10 then (some ([],true,0)) else ((z10 l6).bind fun r13=>if decide (10 < (r13.length:Int)) then (some ([],false,2)) else (some (r13,false,0)))
noncomputable def z9s (a1:xa):Option ((List Bs)×Bool×Int):=
 (uu a1.Headers [118,97,114,121]).bind fun r2=>(Ws r2).bind fun r4=>if r4.length≤1000000000 then rng (fun (k:Nat) (s:(List Bs))=>x2i k s) (fun (s:(List Bs))=>y0z s) r4.length 0 r4 else none
noncomputable def z9v (c1:qo):Option (Int):=
 if c1.NoCache then some 0 else (if decide (c1.Shared≠(-1)) then (some (wr (c1.Shared * 1000))) else (if decide (c1.MaxAge≠(-1)) then (some (wr (c1.MaxAge * 1000))) else some 0))
noncomputable def z9w (a1:xa):Option (Int×Int):=
 (z85 a1).bind fun r2=>if decide (r2≠0) then (some (0,r2)) else ((z5a a1.Headers).bind fun r5=>if decide (r5.2≠0) then (some (0,r5.2)) else ((z9s a1).bind fun r8=>if decide (r8.2.2≠0) then (some (0,r8.2.2)) else ((z9v r5.1).bind fun r11=>some (r11,0))))
noncomputable def Zp (v27:Bool):Option (Bool):=
 some v27
noncomputable def z9b  : Option (Bool):=
 (z4v [47,97,47,46,46,47,98]).bind fun r1=>(y3q ([(jn.mk [97] 1)]) 2).bind fun r3=>(z9w (xa.mk 200 ([(ql.mk [99,97,99,104,101,45,99,111,110,116,114,111,108] [109,97,120,45,97,103,101,61,50])]) [])).bind fun r5=>if decide (r1.2=0) then (if decide (r1.1=[47,98]) then (if decide (r3.2=0) then (if decide ((r3.1.length:Int)=2) then (if decide (r5.2=0) then (if decide (r5.1=2000) then ((z4d [97,98]).bind fun r19=>Zp (decide (r19=[89,87,73]))) else (Zp false)) else (Zp false)) else (Zp false)) else (Zp false)) else (Zp false)) else (Zp false)
noncomputable def z8p (c1:yh) (apps2:(List yd)) (app3:Bs) (product4:Bs) (v5:Int):Option (Int):=
 (z1w apps2 app3).bind fun r6=>(z1s c1 product4).bind fun r8=>if ((!r6.2) || (!r8.2)) then some 8 else ((z4p v5).bind fun r11=>some r11)
noncomputable def z8v (c1:yh) (apps2:(List yd)) (l3:(List zq)) (app4:Bs) (product5:Bs) (v6:Int):Option (zz×Int):=
 (z4s c1 apps2 l3).bind fun r7=>if decide (r7≠0) then (some ((zz.mk 0 [] 0 0),r7)) else ((z8p c1 apps2 app4 product5 v6).bind fun r10=>if decide (r10≠0) then (some ((zz.mk 0 [] 0 0),r10)) else ((z1v c1 l3 v6).bind fun r13=>(z1u r13.1 app4 product5).bind fun r15=>some (r15,0)))
noncomputable def y16 (k2:Nat) (x5:(List Bs)):Option (Unit ⊕ (Int)):=
 (Qh x5).bind fun r8=>if decide (r8≠0) then (some (.inr r8)) else (some (.inl ()))
noncomputable def y17:Option (Int):=
 some 0
noncomputable def z8g (l1:(List (List Bs))):Option (Int):=
 if l1.length≤1000000000 then forL (fun (k:Nat) (x:(List Bs)) (s:Unit)=>y16 k x) (fun (s:Unit)=>y17) 0 l1 () else none
noncomputable def z8c (h1:Bs) (c2:Bs):Option (Bool):=
 (z39 h1 c2).bind fun r3=>some r3
noncomputable def z8d (l1:(List Bs)) (s2:Bs):Option (Bool):=
 (z1q l1 (fun (a0:Bs)=>z8c a0 s2)).bind fun r3=>some r3
noncomputable def z8e (s1:Bs) (c2:(List Bs)):Option (Bool):=
 (z8d c2 s1).bind fun r3=>some (!r3)
noncomputable def z8f (v1:(List Bs)) (want2:(List Bs)):Option (Bool):=
 (z1q want2 (fun (a0:Bs)=>z8e a0 v1)).bind fun r3=>some (!r3)
noncomputable def z8j (v1:(List Bs)) (want2:(List Bs)):Option (Bool×Int):=
 (z8g [v1,want2]).bind fun r3=>if decide (r3≠0) then (some (false,r3)) else ((z8f v1 want2).bind fun r6=>some (r6,0))
noncomputable def y45 (r2:(yh×zy)) (r4:((List yd)×zy)) (r8:((List zq)×zy)) (r10:(Int×zy)) (r12:((List Bs)×Int)) (k37:Nat) (x40:yq):Option (Unit ⊕ (Bool)):=
 (z8v r2.1 r4.1 r8.1 [97,112,112,49] x40.Key r10.1).bind fun r45=>(z8j r12.1 x40.Scopes).bind fun r47=>if (((decide (r45.2≠0)) || (decide (r47.2≠0))) || ((decide (r45.1.State=2)) && (!r47.1))) then (some (.inr false)) else (some (.inl ()))
noncomputable def y46:Option (Bool):=
 (z9b ).bind fun r41=>some r41
noncomputable def Yo (r2:(yh×zy)) (r4:((List yd)×zy)) (r8:((List zq)×zy)) (r10:(Int×zy)) (r12:((List Bs)×Int)) (v35:Bool):Option (Bool):=
 if v35 then some false else (if r2.1.Products.length≤1000000000 then forL (fun (k:Nat) (x:yq) (s:Unit)=>y45 r2 r4 r8 r10 r12 k x) (fun (s:Unit)=>y46) 0 r2.1.Products () else none)
noncomputable def y4f (v1:(List Int)):Option (Bool):=
 (z9n (zy.mk v1 0)).bind fun r2=>(z12 r2.2).bind fun r4=>(Ql r4.2 0 10).bind fun r6=>(z9m r6.2 r2.1 r4.1 r6.1).bind fun r8=>(Ql r8.2 0 5184000000).bind fun r10=>(z8w r2.1 r4.1 r8.1 [97,112,112,49] r10.1).bind fun r12=>(z8h [103,97,116,101] [107,101,121,45,49]).bind fun r14=>(z4g (jm.mk [103,97,116,101] [115,104,111,112] [] [] ([(vi.mk [97,112,112,49] r14.1 r12.1 0 345686400000)]) 0) (xl.mk r10.1 [71,69,84] [97,46,98] [47] [] [] ([(ql.mk [120,45,97,112,105,45,107,101,121] [107,101,121,45,49])]) [])).bind fun r16=>if decide (r12.2≠0) then (Yo r2 r4 r8 r10 r12 true) else (if decide (r14.2≠0) then (Yo r2 r4 r8 r10 r12 true) else (if decide (r16.2≠0) then (Yo r2 r4 r8 r10 r12 true) else (if decide (r16.1.By≠2) then (Yo r2 r4 r8 r10 r12 true) else (if decide (r16.1.Name≠[97,112,112,49]) then (Yo r2 r4 r8 r10 r12 true) else ((z8n r16.1.Scopes r12.1).bind fun r28=>Yo r2 r4 r8 r10 r12 (!r28))))))
/- models of functions that this seat does not reach: for the plain texts alone -/
noncomputable def x0f (a1:Bs) (b2:Bs):Option (Bool):=
 (z1n a1 [42]).bind fun r3=>if r3.2 then ((z1m b2 r3.1).bind fun r6=>some r6) else (some (decide (a1=b2)))
noncomputable def x1o (v8:Bool):Option (Bool):=
 some v8
noncomputable def x7i (o1:Bs) (c2:Bs):Option (Bool):=
 if decide (o1≠c2) then ((x0f o1 c2).bind fun r5=>x1o r5) else (x1o false)
noncomputable def x1n (out17:(List Bs)):Option ((List Bs) ⊕ ((List Bs))):=
 some (.inl out17)
noncomputable def x9a (l1:(List Bs)) (k3:Nat) (x6:Bs) (l2:(List Bs)):Option ((List Bs) ⊕ ((List Bs))):=
 (z1q l1 (fun (a0:Bs)=>x7i a0 x6)).bind fun r13=>if !r13 then (if l2.length+1≤1000000000 then (x1n (l2++[x6])) else none) else (x1n l2)
noncomputable def x9b (l2:(List Bs)):Option ((List Bs)):=
 (Yd l2).bind fun r7=>(z1r r7).bind fun r9=>some r9
noncomputable def x0i (l1:(List Bs)):Option ((List Bs)):=
 if l1.length≤1000000000 then forL (fun (k:Nat) (x:Bs) (s:(List Bs))=>x9a l1 k x s) (fun (s:(List Bs))=>x9b s) 0 l1 [] else none
noncomputable def x1l (l5:(List Bs)):Option ((List Bs)×Int):=
 if decide (50 < (l5.length:Int)) then (some ([],2)) else ((x0i l5).bind fun r11=>some (r11,0))
noncomputable def x86 (k5:Nat) (x8:UInt8) (h4:Int):Option (Int ⊕ (Int)):=
 some (.inl (IntKind.wrap .u64 ((xor_ .u64 h4 (IntKind.wrap .u64 (x8.toNat:Int))) * 1099511628211)))
noncomputable def x87 (h4:Int):Option (Int):=
 some h4
noncomputable def x7f (l1:(List Bs)):Option (Int):=
 (z4h l1 [0]).bind fun r2=>if r2.length≤1000000000 then forL (fun (k:Nat) (x:UInt8) (s:Int)=>x86 k x s) (fun (s:Int)=>x87 s) 0 r2 14695981039346656037 else none
noncomputable def z4x (h1:Int):Option (Bs):=
 (Wp h1 16).bind fun r2=>(Qj [48] (wr (16 - (r2.length:Int)))).bind fun r4=>if r4.length+r2.length≤1000000000 then (some (r4++r2)) else none
noncomputable def y49 (k6:Nat) (h5:Int):Option (Int ⊕ (Bs)):=
 some (.inl (IntKind.wrap .u64 ((xor_ .u64 h5 (shr_ .u64 h5 29)) * 13787848793156543929)))
noncomputable def z2e (h5:Int):Option (Bs):=
 (z4x h5).bind fun r9=>some r9
noncomputable def y4i (secret1:Bs) (text2:Bs):Option (Bs):=
 (x7f [secret1,text2,secret1]).bind fun r3=>if 3≤1000000000 then rng (fun (k:Nat) (s:Int)=>y49 k s) (fun (s:Int)=>z2e s) 3 0 r3 else none
noncomputable def x85 (v12:Bool):Option (Unit ⊕ (Bool)):=
 if v12 then (some (.inr false)) else (some (.inl ()))
noncomputable def v2j (low2:Int) (k3:Nat) (x6:UInt8):Option (Unit ⊕ (Bool)):=
 if decide ((x6.toNat:Int) < low2) then (x85 true) else (x85 (decide (126 < (x6.toNat:Int))))
noncomputable def v2k:Option (Bool):=
 some true
noncomputable def w60 (s1:Bs) (low2:Int):Option (Bool):=
 if s1.length≤1000000000 then forL (fun (k:Nat) (x:UInt8) (s:Unit)=>v2j low2 k x) (fun (s:Unit)=>v2k) 0 s1 () else none
noncomputable def x1m (k4:Nat) (x7:va) (last3:Bs):Option (Bs ⊕ (Int)):=
 (Yf x7.Id).bind fun r10=>if !r10 then (some (.inr 5)) else (if (Op.bytesLess x7.Id last3 || x7.Id == last3) then (some (.inr 7)) else ((kr x7.At 0 x7.Until).bind fun r14=>if ((!r14) || (decide (345686400000 < x7.Until))) then (some (.inr 1)) else (some (.inl x7.Id))))
noncomputable def x89 (last3:Bs):Option (Int):=
 some 0
noncomputable def x7h (l1:(List va)):Option (Int):=
 if decide (1000 < (l1.length:Int)) then some 2 else (if l1.length≤1000000000 then forL (fun (k:Nat) (x:va) (s:Bs)=>x1m k x s) (fun (s:Bs)=>x89 s) 0 l1 [] else none)
noncomputable def x1j (v9:Bool):Option (Bool):=
 some v9
noncomputable def x0h (s1:Bs):Option (Bool):=
 (kr (s1.length:Int) 1 100).bind fun r2=>if r2 then ((Ww s1 [97,98,99,100,101,102,103,104,105,106,107,108,109,110,111,112,113,114,115,116,117,118,119,120,121,122,65,66,67,68,69,70,71,72,73,74,75,76,77,78,79,80,81,82,83,84,85,86,87,88,89,90,48,49,50,51,52,53,54,55,56,57,33,35,36,37,38,39,42,43,45,46,94,95,96,124,126]).bind fun r6=>x1j r6) else (x1j false)
noncomputable def x1p (v12:Bool):Option (Bool):=
 some v12
noncomputable def x7k (s1:Bs):Option (Bool):=
 if decide ((s1.length:Int)≤2000) then ((w60 s1 32).bind fun r4=>if r4 then ((z1l s1 [32]).bind fun r8=>x1p (decide (r8=s1))) else (x1p false)) else (x1p false)
noncomputable def x9c (k3:Nat) (x6:ql):Option (Unit ⊕ (Int)):=
 (x0h x6.Name).bind fun r9=>if !r9 then (some (.inr 5)) else ((x7k x6.Value).bind fun r12=>if !r12 then (some (.inr 3)) else (some (.inl ())))
noncomputable def x9d:Option (Int):=
 some 0
noncomputable def x7j (l1:(List ql)):Option (Int):=
 if decide (50 < (l1.length:Int)) then some 2 else (if l1.length≤1000000000 then forL (fun (k:Nat) (x:ql) (s:Unit)=>x9c k x) (fun (s:Unit)=>x9d) 0 l1 () else none)
noncomputable def x0g (a1:Bs) (b2:Bs):Option (Bool):=
 (Qi a1).bind fun r3=>(Qi b2).bind fun r5=>some (decide (r3=r5))
noncomputable def x1i (out14:(List Bs)):Option ((List Bs) ⊕ ((List Bs))):=
 some (.inl out14)
noncomputable def y0p (name2:Bs) (k4:Nat) (x7:ql) (l3:(List Bs)):Option ((List Bs) ⊕ ((List Bs))):=
 (x0g x7.Name name2).bind fun r10=>if r10 then (if l3.length+1≤1000000000 then (x1i (l3++[x7.Value])) else none) else (x1i l3)
noncomputable def x88 (l3:(List Bs)):Option ((List Bs)):=
 some l3
noncomputable def x7g (l1:(List ql)) (name2:Bs):Option ((List Bs)):=
 if l1.length≤1000000000 then forL (fun (k:Nat) (x:ql) (s:(List Bs))=>y0p name2 k x s) (fun (s:(List Bs))=>x88 s) 0 l1 [] else none
structure v58 where
 Name:Bs
 Value:Bs
structure v6j where
 Words:Bs
 Params:(List v58)
 Quality:Int
structure v6g where
 s_:Bs
 i_:Int
 bad_:Bool
structure v6i where
 s_:Bs
noncomputable def x0j  : Option (Bool):=
 (z4v [47,97,47,46,46,47,98]).bind fun r1=>some ((decide (r1.2=0)) && (decide (r1.1=[47,98])))
structure v6k where
 Request:xl
 Response:xa
 At:Int
 Tags:(List Bs)
 Used:Int
structure v6h where
 c_:Int
 plain_:Bool
noncomputable def x0k  : Option (Bool):=
 (z9w (xa.mk 200 ([(ql.mk [99,97,99,104,101,45,99,111,110,116,114,111,108] [109,97,120,45,97,103,101,61,50])]) [])).bind fun r1=>some ((decide (r1.2=0)) && (decide (r1.1=2000)))
end Go.Proofs.YtbndlmnjeofkdacGreatDoor
