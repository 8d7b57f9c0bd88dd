/- Plain models of functions. Printed by a program. -/
import Derived.Test.YtgdijjmdfcgifaaGreatMc
import Derived.Test.YtgdijjmdfcgifaaGreatMl
namespace Go.Proofs.YtgdijjmdfcgifaaGreat
set_option linter.unusedVariables false
set_option maxRecDepth 20000
structure wn where
 Window:Int
 Least:Int
 Part:Int
structure zl where
 Key:Bs
 Weight:Int
structure vo where
 Fails:Int
 Base:Int
 Most:Int
 Share:Int
structure yq where
 row_:Int
 until_:Int
 times_:Int
structure qj where
 o_:vo
 list_:(List yq)
structure qn where
 l_:(List zl)
 o_:vo
 row_:(Nat×(Bs→Int))
 times_:(Nat×(Bs→Int))
 until_:(Nat×(Bs→Int))
structure z7w where
 At:Int
 Instance:Bs
 Status:Int
structure qb where
 Instances:(List zl)
 Tries:Int
 Timeout:Int
 Wait:Int
 MostWait:Int
 Budget:wn
 Outliers:vo
structure ka where
 From:Int
 To:Int
structure zz where
 Instance:Bs
 Time:ka
 Status:Int
 Took:Int
structure qc where
 Instance:Bs
 Sent:Int
 Done:Int
 Status:Int
structure yf where
 Call:Bs
 Tries:(List qc)
 Done:Int
 Status:Int
structure yj where
 state_:Int
 start_:Int
 tried_:(List (Int×Bool))
 out_:yf
structure zt where
 call_:Int
 instance_:Int
 sent_:Int
 end_:Int
 status_:Int
structure y47 where
 s_:qb
 phases_:(List zz)
 ats_:(List Int)
 again_:(List Int)
 stand_:(Option qj)
 calls_:(List (Option yj))
 tries_:(List zt)
structure jl where
 Instance:Bs
 Many:Int
structure yi where
 Id:Bs
 At:Int
structure zr where
 L:(List Int)
 at_:Int
structure va where
 Num:Int
 Den:Int
noncomputable def z1q (status1:Int):Option (Bool):=
 some ((decide (status1=0)) || (decide (500≤status1)))
noncomputable def z2m (n12:Int):Option (Int ⊕ (Int)):=
 some (.inl n12)
noncomputable def z73 (c2:Int) (c3:wn) (k5:Nat) (x8:Int) (n4:Int):Option (Int ⊕ (Int)):=
 if ((decide ((wr (c2 - c3.Window)) < x8)) && (decide (x8≤c2))) then (z2m (wr (n4+1))) else (z2m n4)
noncomputable def z74 (n4:Int):Option (Int):=
 some n4
noncomputable def z3r (l1:(List Int)) (c2:Int) (c3:wn):Option (Int):=
 if l1.length≤1000000000 then forL (fun (k:Nat) (x:Int) (s:Int)=>z73 c2 c3 k x s) (fun (s:Int)=>z74 s) 0 l1 0 else none
noncomputable def z6b (b1:wn) (calls2:(List Int)) (again3:(List Int)) (v4:Int):Option (Bool):=
 (z3r again3 v4 b1).bind fun r5=>(z3r calls2 v4 b1).bind fun r7=>if ((0:Int)≤(wr (b1.Part * r7))∧(wr (b1.Part * r7))≤9223372036854775807)∧(0:Int) < 1000 then (some (decide (r5 < (wr (b1.Least+((wr (b1.Part * r7)) / 1000)))))) else none
noncomputable def Qe (most3:Int) (n10:Int):Option (Int):=
 some (min n10 most3)
noncomputable def Zz (most3:Int) (k5:Nat) (n4:Int):Option (Int ⊕ (Int)):=
 if decide (most3≤n4) then (Option.map .inr (Qe most3 n4)) else (some (.inl (wr (n4 * 2))))
noncomputable def z03 (most3:Int) (n4:Int):Option (Int):=
 Qe most3 n4
noncomputable def Qz (n1:Int) (times2:Int) (most3:Int):Option (Int):=
 if times2≤1000000000 then rng (fun (k:Nat) (s:Int)=>Zz most3 k s) (fun (s:Int)=>z03 most3 s) times2.toNat 0 n1 else none
noncomputable def z2n (best26:Int):Option (Int ⊕ (Int)):=
 some (.inl best26)
noncomputable def z02 (best3:Int) (k4:Nat) (v24:Bool):Option (Int ⊕ (Int)):=
 if v24 then (z2n (k4:Int)) else (z2n best3)
noncomputable def z75 (l1:(List zl)) (loads2:(List Int)) (p2:Int→Option (Bool)) (k4:Nat) (x7:zl) (best3:Int):Option (Int ⊕ (Int)):=
 (p2 (k4:Int)).bind fun r10=>if r10 then (if decide (best3 < 0) then (z02 best3 k4 true) else ((loads2[k4]?).bind fun (x16:Int)=>(at? l1 best3).bind fun (x18:zl)=>(at? loads2 best3).bind fun (x20:Int)=>z02 best3 k4 (decide ((wr ((wr (x16+1)) * x18.Weight)) < (wr ((wr (x20+1)) * x7.Weight)))))) else (z02 best3 k4 false)
noncomputable def z76 (best3:Int):Option (Int):=
 some best3
noncomputable def z3s (l1:(List zl)) (loads2:(List Int)) (p2:Int→Option (Bool)):Option (Int):=
 if l1.length≤1000000000 then forL (fun (k:Nat) (x:zl) (s:Int)=>z75 l1 loads2 p2 k x s) (fun (s:Int)=>z76 s) 0 l1 (-1) else none
noncomputable def z3o (s1:qj) (i2:Int) (v3:Int):Option (Bool):=
 (at? s1.list_ i2).bind fun (x4:yq)=>some (decide (v3 < x4.until_))
noncomputable def z2l (v25:Int):Option (Int ⊕ (qj)):=
 some (.inl v25)
noncomputable def z40 (s1:qj) (v2:Int) (v3:Int) (x8:yq) (k15:Nat) (v14:Int):Option (Int ⊕ (qj)):=
 (z3o (qj.mk s1.o_ ((s1.list_.set v2.toNat (yq.mk (wr (x8.row_+1)) x8.until_ x8.times_)).set v2.toNat (yq.mk 0 x8.until_ x8.times_))) (k15:Int) v3).bind fun r22=>if r22 then (z2l (wr (v14+1))) else (z2l v14)
noncomputable def z41 (s1:qj) (v2:Int) (v3:Int) (x8:yq) (v14:Int):Option (qj):=
 if decide ((wr (v14 * 1000))≤(wr (s1.o_.Share * (((s1.list_.set v2.toNat (yq.mk (wr (x8.row_+1)) x8.until_ x8.times_)).set v2.toNat (yq.mk 0 x8.until_ x8.times_)).length:Int)))) then ((Qz s1.o_.Base x8.times_ s1.o_.Most).bind fun r19=>some (qj.mk s1.o_ ((((s1.list_.set v2.toNat (yq.mk (wr (x8.row_+1)) x8.until_ x8.times_)).set v2.toNat (yq.mk 0 x8.until_ x8.times_)).set v2.toNat (yq.mk 0 (wr (v3+r19)) x8.times_)).set v2.toNat (yq.mk 0 (wr (v3+r19)) (wr (x8.times_+1)))))) else (some (qj.mk s1.o_ ((s1.list_.set v2.toNat (yq.mk (wr (x8.row_+1)) x8.until_ x8.times_)).set v2.toNat (yq.mk 0 x8.until_ x8.times_))))
noncomputable def z58 (s1:qj) (v2:Int) (v3:Int) (v4:Int):Option (qj):=
 (z3o s1 v2 v3).bind fun r5=>if r5 then some s1 else ((at? s1.list_ v2).bind fun (x8:yq)=>(z1q v4).bind fun r10=>if !r10 then (some (qj.mk s1.o_ (s1.list_.set v2.toNat (yq.mk 0 x8.until_ x8.times_)))) else (if decide ((wr (x8.row_+1)) < s1.o_.Fails) then (some (qj.mk s1.o_ (s1.list_.set v2.toNat (yq.mk (wr (x8.row_+1)) x8.until_ x8.times_)))) else (if ((s1.list_.set v2.toNat (yq.mk (wr (x8.row_+1)) x8.until_ x8.times_)).set v2.toNat (yq.mk 0 x8.until_ x8.times_)).length≤1000000000 then rng (fun (k:Nat) (s:Int)=>z40 s1 v2 v3 x8 k s) (fun (s:Int)=>z41 s1 v2 v3 x8 s) (((s1.list_.set v2.toNat (yq.mk (wr (x8.row_+1)) x8.until_ x8.times_)).set v2.toNat (yq.mk 0 x8.until_ x8.times_)).length) 0 1 else none)))
noncomputable def z9v (s1:qj) (i2:Int) (v3:Int):Option (Bool):=
 (at? s1.list_ i2).bind fun (x4:yq)=>some (decide (v3 < x4.until_))
noncomputable def z3x (status1:Int):Option (Bool):=
 some ((decide (status1=0)) || (decide (500≤status1)))
noncomputable def z4e (out13:(List Bs)):Option ((List Bs) ⊕ ((List Bs))):=
 some (.inl out13)
noncomputable def z15 (s1:qn) (v2:Int) (k4:Nat) (x7:zl) (l3:(List Bs)):Option ((List Bs) ⊕ ((List Bs))):=
 if x7.Key.length≤1000000000 then (if decide (v2 < (s1.until_.2 x7.Key)) then (if l3.length+1≤1000000000 then (z4e (l3++[x7.Key])) else none) else (z4e l3)) else none
noncomputable def y0o (l3:(List Bs)):Option ((List Bs)):=
 some l3
noncomputable def z3y (s1:qn) (v2:Int):Option ((List Bs)):=
 if s1.l_.length≤1000000000 then forL (fun (k:Nat) (x:zl) (s:(List Bs))=>z15 s1 v2 k x s) (fun (s:(List Bs))=>y0o s) 0 s1.l_ [] else none
noncomputable def z0o (s1:qn) (k19:Nat) (v18:Int):Option (Int ⊕ (qn)):=
 some (.inl (min (wr (2 * v18)) s1.o_.Most))
noncomputable def z4d (s1:qn) (v2:z7w) (v18:Int):Option (qn):=
 if v2.Instance.length≤1000000000 then (if v2.Instance.length≤1000000000∧s1.times_.1 < 1000000∧-9223372036854775808≤wr ((s1.times_.2 v2.Instance)+1)∧wr ((s1.times_.2 v2.Instance)+1)≤9223372036854775807 then (if v2.Instance.length≤1000000000∧s1.until_.1 < 1000000∧-9223372036854775808≤wr (v2.At+v18)∧wr (v2.At+v18)≤9223372036854775807 then (some (qn.mk s1.l_ s1.o_ (((s1.row_.1+1)+1),(upm (upm s1.row_.2 v2.Instance (wr ((s1.row_.2 v2.Instance)+1))) v2.Instance 0)) ((s1.times_.1+1),(upm s1.times_.2 v2.Instance (wr ((s1.times_.2 v2.Instance)+1)))) ((s1.until_.1+1),(upm s1.until_.2 v2.Instance (wr (v2.At+v18)))))) else none) else none) else none
noncomputable def z6l (s1:qn) (v2:z7w):Option (qn):=
 if v2.Instance.length≤1000000000 then (if decide (v2.At < (s1.until_.2 v2.Instance)) then (some (qn.mk s1.l_ s1.o_ (s1.row_.1,s1.row_.2) (s1.times_.1,s1.times_.2) (s1.until_.1,s1.until_.2))) else ((z3x v2.Status).bind fun r5=>if !r5 then (if v2.Instance.length≤1000000000∧s1.row_.1 < 1000000∧-9223372036854775808≤(0:Int)∧(0:Int)≤9223372036854775807 then (some (qn.mk s1.l_ s1.o_ ((s1.row_.1+1),(upm s1.row_.2 v2.Instance 0)) (s1.times_.1,s1.times_.2) (s1.until_.1,s1.until_.2))) else none) else (if v2.Instance.length≤1000000000 then (if v2.Instance.length≤1000000000∧s1.row_.1 < 1000000∧-9223372036854775808≤wr ((s1.row_.2 v2.Instance)+1)∧wr ((s1.row_.2 v2.Instance)+1)≤9223372036854775807 then (if v2.Instance.length≤1000000000 then (if decide (((upm s1.row_.2 v2.Instance (wr ((s1.row_.2 v2.Instance)+1))) v2.Instance) < s1.o_.Fails) then (some (qn.mk s1.l_ s1.o_ ((s1.row_.1+1),(upm s1.row_.2 v2.Instance (wr ((s1.row_.2 v2.Instance)+1)))) (s1.times_.1,s1.times_.2) (s1.until_.1,s1.until_.2))) else (if v2.Instance.length≤1000000000∧(s1.row_.1+1) < 1000000∧-9223372036854775808≤(0:Int)∧(0:Int)≤9223372036854775807 then ((z3y (qn.mk s1.l_ s1.o_ (((s1.row_.1+1)+1),(upm (upm s1.row_.2 v2.Instance (wr ((s1.row_.2 v2.Instance)+1))) v2.Instance 0)) (s1.times_.1,s1.times_.2) (s1.until_.1,s1.until_.2)) v2.At).bind fun r14=>if decide ((wr (s1.o_.Share * (s1.l_.length:Int))) < (wr ((wr ((r14.length:Int)+1)) * 1000))) then (some (qn.mk s1.l_ s1.o_ (((s1.row_.1+1)+1),(upm (upm s1.row_.2 v2.Instance (wr ((s1.row_.2 v2.Instance)+1))) v2.Instance 0)) (s1.times_.1,s1.times_.2) (s1.until_.1,s1.until_.2))) else (if v2.Instance.length≤1000000000 then (if (s1.times_.2 v2.Instance)≤1000000000 then rng (fun (k:Nat) (s:Int)=>z0o s1 k s) (fun (s:Int)=>z4d s1 v2 s) ((s1.times_.2 v2.Instance).toNat) 0 s1.o_.Base else none) else none)) else none)) else none) else none) else none))) else none
noncomputable def y0a (l1:(List zl)) (o2:vo):Option (qn):=
 some (qn.mk l1 o2 (0,(fun _=>0)) (0,(fun _=>0)) (0,(fun _=>0)))
noncomputable def z01 (s1:y47) (i2:Int) (v3:Int) (k4:Nat) (x7:zz):Option (Unit ⊕ (zz×Bool)):=
 (at? s1.s_.Instances i2).bind fun (x10:zl)=>if (((decide (x7.Instance=x10.Key)) && (decide (x7.Time.From≤v3))) && (decide (v3 < x7.Time.To))) then (some (.inr (x7,true))) else (some (.inl ()))
noncomputable def z72:Option (zz×Bool):=
 some ((zz.mk [] (ka.mk 0 0) 0 0),false)
noncomputable def z3p (s1:y47) (i2:Int) (v3:Int):Option (zz×Bool):=
 if s1.phases_.length≤1000000000 then forL (fun (k:Nat) (x:zz) (s:Unit)=>z01 s1 i2 v3 k x) (fun (s:Unit)=>z72) 0 s1.phases_ () else none
noncomputable def z9w (s1:yj) (c2:Int):Option (Bool):=
 some ((decide (s1.state_=0)) && (decide (s1.start_=c2)))
noncomputable def z85 (p1:(Option yj)→Option (Bool)) (k2:Nat) (x5:(Option yj)):Option (Unit ⊕ (Int)):=
 (p1 x5).bind fun r8=>if r8 then (some (.inr (k2:Int))) else (some (.inl ()))
noncomputable def z86:Option (Int):=
 some (-1)
noncomputable def z91 (s1:(List (Option yj))) (p1:(Option yj)→Option (Bool)):Option (Int):=
 if s1.length≤1000000000 then forL (fun (k:Nat) (x:(Option yj)) (s:Unit)=>z85 p1 k x) (fun (s:Unit)=>z86) 0 s1 () else none
noncomputable def y3s (t1:qc) (c2:zl):Option (Bool):=
 some (decide (t1.Instance=c2.Key))
noncomputable def y2w (p1:qc→Option (Bool)) (k2:Nat) (x5:qc):Option (Unit ⊕ (Int)):=
 (p1 x5).bind fun r8=>if r8 then (some (.inr (k2:Int))) else (some (.inl ()))
noncomputable def y2x:Option (Int):=
 some (-1)
noncomputable def y3q (s1:(List qc)) (p1:qc→Option (Bool)):Option (Int):=
 if s1.length≤1000000000 then forL (fun (k:Nat) (x:qc) (s:Unit)=>y2w p1 k x) (fun (s:Unit)=>y2x) 0 s1 () else none
noncomputable def z96 (s1:(List qc)) (p1:qc→Option (Bool)):Option (Bool):=
 (y3q s1 p1).bind fun r2=>some (decide (0≤r2))
noncomputable def z7b (x1:Int):Option (Bool):=
 some (decide (x1≠x1))
noncomputable def y0d (x1:Int) (y2:Int):Option (Int):=
 (z7b x1).bind fun r3=>(z7b y2).bind fun r5=>if r3 then (if r5 then some 0 else (some (-1))) else (if r5 then some 1 else (if decide (x1 < y2) then (some (-1)) else (if decide (y2 < x1) then some 1 else some 0)))
noncomputable def Yr (a1:zt) (b2:zt):Option (Int):=
 (y0d a1.sent_ b2.sent_).bind fun r3=>some r3
noncomputable def z84 (i4:Int) (data28:(List zt)):Option ((Int×(List zt)) ⊕ ((List zt))):=
 some (.inl (wr (i4+1),data28))
noncomputable def z5v (i4:Int) (j8:Int) (l9:(List zt)) (v20:Bool):Option ((Int×(List zt)) ⊕ ((Int×(List zt)) ⊕ ((List zt)))):=
 if v20 then ((at? l9 (wr (j8 - 1))).bind fun (x22:zt)=>(at? l9 j8).bind fun (x24:zt)=>(at? (l9.set j8.toNat x22) (wr (j8 - 1))).bind fun (x26:zt)=>some (.inl (wr (j8 - 1),((l9.set j8.toNat x22).set ((wr (j8 - 1)).toNat) x24)))) else (Option.map .inr (z84 i4 l9))
noncomputable def y2s (a2:Int) (p3:zt→zt→Option (Int)) (i4:Int) (j8:Int) (l9:(List zt)):Option ((Int×(List zt)) ⊕ ((Int×(List zt)) ⊕ ((List zt)))):=
 if decide (a2 < j8) then ((at? l9 j8).bind fun (x13:zt)=>(at? l9 (wr (j8 - 1))).bind fun (x15:zt)=>(p3 x13 x15).bind fun r17=>z5v i4 j8 l9 (decide (r17 < 0))) else (z5v i4 j8 l9 false)
noncomputable def y2t (a2:Int) (b3:Int) (p3:zt→zt→Option (Int)) (i4:Int) (l5:(List zt)):Option ((Int×(List zt)) ⊕ ((List zt))):=
 if decide (i4 < b3) then (iter (fun (s:Int×(List zt))=>y2s a2 p3 i4 s.1 s.2) (i4,l5)) else (some (.inr l5))
noncomputable def z90 (data1:(List zt)) (a2:Int) (b3:Int) (p3:zt→zt→Option (Int)):Option ((List zt)):=
 iter (fun (s:Int×(List zt))=>y2t a2 b3 p3 s.1 s.2) (wr (a2+1),data1)
noncomputable def z81 (blockSize16:Int):Option (Int ⊕ ((List zt))):=
 some (.inl (wr (blockSize16 * 2)))
noncomputable def z82 (n2:Int) (blockSize16:Int) (a23:Int):Option (Int ⊕ ((List zt))):=
 if decide ((wr (a23+blockSize16)) < n2) then none else (z81 blockSize16)
noncomputable def y2p (n2:Int) (blockSize16:Int) (a19:Int) (b20:Int):Option ((Int×Int) ⊕ (Int ⊕ ((List zt)))):=
 if decide (b20≤n2) then none else (Option.map .inr (z82 n2 blockSize16 a19))
noncomputable def y2q (n2:Int) (r13:((List zt))) (blockSize16:Int):Option (Int ⊕ ((List zt))):=
 if decide (blockSize16 < n2) then (iter (fun (s:Int×Int)=>y2p n2 blockSize16 s.1 s.2) (0,wr (2 * blockSize16))) else (some (.inr r13))
noncomputable def z83 (n2:Int) (p2:zt→zt→Option (Int)) (a11:Int) (data12:(List zt)):Option ((List zt)):=
 (z90 data12 a11 n2 p2).bind fun r13=>if r13.length=data12.length then (iter (fun (s:Int)=>y2q n2 r13 s) 20) else none
noncomputable def y2r (n2:Int) (p2:zt→zt→Option (Int)) (a3:Int) (b4:Int) (l5:(List zt)):Option ((Int×Int×(List zt)) ⊕ ((List zt))):=
 if decide (b4≤n2) then ((z90 l5 a3 b4 p2).bind fun r8=>if r8.length=l5.length then (some (.inl (b4,wr (b4+20),r8))) else none) else (Option.map .inr (z83 n2 p2 a3 l5))
noncomputable def z9z (data1:(List zt)) (n2:Int) (p2:zt→zt→Option (Int)):Option ((List zt)):=
 iter (fun (s:Int×Int×(List zt))=>y2r n2 p2 s.1 s.2.1 s.2.2) (0,20,data1)
noncomputable def z1t (x1:(List zt)) (p1:zt→zt→Option (Int)):Option ((List zt)):=
 (z9z x1 (x1.length:Int) p1).bind fun r2=>if r2.length=x1.length then some r2 else none
noncomputable def vy (n1:Int) (low2:Int) (high3:Int):Option (Bool):=
 some ((decide (low2≤n1)) && (decide (n1≤high3)))
noncomputable def z4g (n14:Int):Option (Int ⊕ (Int)):=
 some (.inl n14)
noncomputable def y0q (c2:Int) (c3:wn) (k5:Nat) (x8:Int) (n4:Int):Option (Int ⊕ (Int)):=
 (vy x8 (wr ((wr (c2 - c3.Window))+1)) c2).bind fun r11=>if r11 then (z4g (wr (n4+1))) else (z4g n4)
noncomputable def y0r (n4:Int):Option (Int):=
 some n4
noncomputable def z30 (l1:(List Int)) (c2:Int) (c3:wn):Option (Int):=
 if l1.length≤1000000000 then forL (fun (k:Nat) (x:Int) (s:Int)=>y0q c2 c3 k x s) (fun (s:Int)=>y0r s) 0 l1 0 else none
noncomputable def z6s (b1:wn) (calls2:(List Int)) (again3:(List Int)) (v4:Int):Option (Bool):=
 (z30 again3 v4 b1).bind fun r5=>(z30 calls2 v4 b1).bind fun r7=>if ((0:Int)≤(wr (b1.Part * r7))∧(wr (b1.Part * r7))≤9223372036854775807)∧(0:Int) < 1000 then (some (decide (r5 < (wr (b1.Least+((wr (b1.Part * r7)) / 1000)))))) else none
noncomputable def y0w (most2:Int) (k5:Nat) (wait4:Int):Option (Int ⊕ (Int)):=
 some (.inl (min (wr (2 * wait4)) most2))
noncomputable def y0x (wait4:Int):Option (Int):=
 some wait4
noncomputable def z32 (wait1:Int) (most2:Int) (v3:Int):Option (Int):=
 if (wr (v3 - 2))≤1000000000 then rng (fun (k:Nat) (s:Int)=>y0w most2 k s) (fun (s:Int)=>y0x s) ((wr (v3 - 2)).toNat) 0 wait1 else none
noncomputable def z4c (key2:Bs) (k3:Nat) (x6:jl):Option (Unit ⊕ (Int)):=
 if decide (x6.Instance=key2) then (some (.inr x6.Many)) else (some (.inl ()))
noncomputable def y0n:Option (Int):=
 some 0
noncomputable def z1v (loads1:(List jl)) (key2:Bs):Option (Int):=
 if loads1.length≤1000000000 then forL (fun (k:Nat) (x:jl) (s:Unit)=>z4c key2 k x) (fun (s:Unit)=>y0n) 0 loads1 () else none
noncomputable def z4i (c18:Bs) (c19:Int):Option ((Bs×Int) ⊕ (Bs)):=
 some (.inl (c18,c19))
noncomputable def y0s (loads2:(List jl)) (k7:Nat) (x10:zl) (c5:Bs) (c6:Int):Option ((Bs×Int) ⊕ (Bs)):=
 (z1v loads2 x10.Key).bind fun r13=>(z1v loads2 c5).bind fun r15=>if decide ((wr ((wr (r13+1)) * c6)) < (wr ((wr (r15+1)) * x10.Weight))) then (z4i x10.Key x10.Weight) else (z4i c5 c6)
noncomputable def y0t (c5:Bs) (c6:Int):Option (Bs):=
 some c5
noncomputable def z6u (l1:(List zl)) (loads2:(List jl)):Option (Bs):=
 (l1[0]?).bind fun (x3:zl)=>if l1.length≤1000000000 then forL (fun (k:Nat) (x:zl) (s:Bs×Int)=>y0s loads2 k x s.1 s.2) (fun (s:Bs×Int)=>y0t s.1 s.2) 0 l1 (x3.Key,x3.Weight) else none
noncomputable def y2u (v2:Bs) (k3:Nat) (x6:Bs):Option (Unit ⊕ (Int)):=
 if decide (v2=x6) then (some (.inr (k3:Int))) else (some (.inl ()))
noncomputable def y2v:Option (Int):=
 some (-1)
noncomputable def y3p (s1:(List Bs)) (v2:Bs):Option (Int):=
 if s1.length≤1000000000 then forL (fun (k:Nat) (x:Bs) (s:Unit)=>y2u v2 k x) (fun (s:Unit)=>y2v) 0 s1 () else none
noncomputable def z95 (s1:(List Bs)) (v2:Bs):Option (Bool):=
 (y3p s1 v2).bind fun r3=>some (decide (0≤r3))
noncomputable def y0l (i2:Nat) (x5:UInt8):Option (Unit ⊕ (Bool)):=
 if !(((decide (97≤(x5.toNat:Int))) && (decide ((x5.toNat:Int)≤122))) || ((decide (0 < (i2:Int))) && ((((decide (48≤(x5.toNat:Int))) && (decide ((x5.toNat:Int)≤57))) || (decide ((x5.toNat:Int)=45))) || (decide ((x5.toNat:Int)=95))))) then (some (.inr false)) else (some (.inl ()))
noncomputable def y3x (s1:Bs):Option (Bool):=
 some ((decide (s1≠[])) && (decide ((s1.length:Int)≤40)))
noncomputable def z3v (s1:Bs):Option (Bool):=
 if s1.length≤1000000000 then forL (fun (k:Nat) (x:UInt8) (s:Unit)=>y0l k x) (fun (s:Unit)=>y3x s1) 0 s1 () else none
noncomputable def jv (n1:Int) (low2:Int) (high3:Int):Option (Bool):=
 some ((decide (n1 < low2)) || (decide (high3 < n1)))
noncomputable def z2q (x6:zl) (v17:Bool):Option (Unit ⊕ (Int)):=
 if v17 then (some (.inr 7)) else ((jv x6.Weight 1 100).bind fun r19=>if r19 then (some (.inr 1)) else (some (.inl ())))
noncomputable def z04 (l1:(List zl)) (k3:Nat) (x6:zl):Option (Unit ⊕ (Int)):=
 (z3v x6.Key).bind fun r9=>if !r9 then (some (.inr 5)) else (if decide (0 < (k3:Int)) then ((at? l1 ((k3:Int) - 1)).bind fun (x14:zl)=>z2q x6 (Op.bytesLess x6.Key x14.Key || x6.Key == x14.Key)) else (z2q x6 false))
noncomputable def z78:Option (Int):=
 some 0
noncomputable def z1s (l1:(List zl)):Option (Int):=
 if decide (50 < (l1.length:Int)) then some 2 else (if l1.length≤1000000000 then forL (fun (k:Nat) (x:zl) (s:Unit)=>z04 l1 k x) (fun (s:Unit)=>z78) 0 l1 () else none)
noncomputable def z06 (v14:Bool):Option (Int):=
 if v14 then some 1 else some 0
noncomputable def z6f (b1:wn):Option (Int):=
 (jv b1.Window 1 3600000).bind fun r2=>if r2 then (z06 true) else ((jv b1.Least 0 300).bind fun r6=>if r6 then (z06 true) else ((jv b1.Part 0 1000).bind fun r10=>z06 r10))
noncomputable def Wq (v17:Bool):Option (Int):=
 if v17 then some 1 else some 0
noncomputable def z6a (o1:vo):Option (Int):=
 (jv o1.Fails 1 100).bind fun r2=>if r2 then (Wq true) else ((jv o1.Base 1 o1.Most).bind fun r6=>if r6 then (Wq true) else (if decide (3600000 < o1.Most) then (Wq true) else ((jv o1.Share 0 1000).bind fun r12=>Wq r12)))
noncomputable def Wr (s1:qb) (v20:Bool):Option (Int):=
 if v20 then some 1 else ((z6f s1.Budget).bind fun r22=>if decide (r22≠0) then some r22 else ((z6a s1.Outliers).bind fun r25=>some r25))
noncomputable def z6c (s1:qb):Option (Int):=
 (z1s s1.Instances).bind fun r2=>if decide (r2≠0) then some r2 else ((jv s1.Tries 1 5).bind fun r5=>if r5 then (Wr s1 true) else ((jv s1.Timeout 1 3600000).bind fun r9=>if r9 then (Wr s1 true) else ((jv s1.Wait 0 s1.MostWait).bind fun r13=>if r13 then (Wr s1 true) else (Wr s1 (decide (3600000 < s1.MostWait))))))
noncomputable def z6k (n1:Int):Option (Bool):=
 some ((decide (0≤n1)) && (decide (n1 < 345686400000)))
noncomputable def z2r (m3:(Bs→Bool)) (m4:Nat) (x8:yi) (v24:Bool):Option (((Bs→Bool)×Nat) ⊕ (Int)):=
 if v24 then (some (.inr 7)) else (if x8.Id.length≤1000000000∧m4 < 1000000 then (some (.inl ((upm m3 x8.Id true),(m4+1)))) else none)
noncomputable def z05 (l1:(List yi)) (k5:Nat) (x8:yi) (m3:(Bs→Bool)) (m4:Nat):Option (((Bs→Bool)×Nat) ⊕ (Int)):=
 (z3v x8.Id).bind fun r11=>if !r11 then (some (.inr 5)) else (if x8.Id.length≤1000000000 then (if (m3 x8.Id) then (some (.inr 6)) else ((z6k x8.At).bind fun r16=>if !r16 then (some (.inr 1)) else (if decide (0 < (k5:Int)) then ((at? l1 ((k5:Int) - 1)).bind fun (x21:yi)=>z2r m3 m4 x8 (decide (x8.At < x21.At))) else (z2r m3 m4 x8 false)))) else none)
noncomputable def z79 (m3:(Bs→Bool)) (m4:Nat):Option (Int):=
 some 0
noncomputable def z6e (l1:(List yi)):Option (Int):=
 if decide (300 < (l1.length:Int)) then some 2 else (if l1.length≤1000000000 then forL (fun (k:Nat) (x:yi) (s:(Bs→Bool)×Nat)=>z05 l1 k x s.1 s.2) (fun (s:(Bs→Bool)×Nat)=>z79 s.1 s.2) 0 l1 ((fun _=>false),0) else none)
noncomputable def z3b (i12:Int) (v20:Bool):Option (Int×Bool):=
 some (i12,v20)
noncomputable def z5w (x1:(List zl)) (target2:Bs) (p2:zl→Bs→Option (Int)) (i12:Int):Option (Int×Bool):=
 if decide (i12 < (x1.length:Int)) then ((at? x1 i12).bind fun (x15:zl)=>(p2 x15 target2).bind fun r17=>z3b i12 (decide (r17=0))) else (z3b i12 false)
noncomputable def z9b (x1:(List zl)) (target2:Bs) (p2:zl→Bs→Option (Int)) (i3:Int) (j4:Int):Option ((Int×Int) ⊕ (Int×Bool)):=
 if decide (i3 < j4) then ((at? x1 (IntKind.wrap .i64 (shr_ .u64 (IntKind.wrap .u64 (wr (i3+j4))) 1))).bind fun (x7:zl)=>(p2 x7 target2).bind fun r9=>if decide (r9 < 0) then (some (.inl (wr ((IntKind.wrap .i64 (shr_ .u64 (IntKind.wrap .u64 (wr (i3+j4))) 1))+1),j4))) else (some (.inl (i3,IntKind.wrap .i64 (shr_ .u64 (IntKind.wrap .u64 (wr (i3+j4))) 1))))) else (Option.map .inr (z5w x1 target2 p2 i3))
noncomputable def z97 (x1:(List zl)) (target2:Bs) (p2:zl→Bs→Option (Int)):Option (Int×Bool):=
 iter (fun (s:Int×Int)=>z9b x1 target2 p2 s.1 s.2) (0,(x1.length:Int))
noncomputable def z3q (x1:zl) (k2:Bs):Option (Int):=
 (z9x x1.Key k2).bind fun r3=>some r3
noncomputable def z59 (l1:(List zl)) (key2:Bs):Option (Int×Bool):=
 (z97 l1 key2 (fun (a0:zl) (a1:Bs)=>z3q a0 a1)).bind fun r3=>some (r3.1,r3.2)
noncomputable def z2p:Option (Unit ⊕ (Int)):=
 some (.inl ())
noncomputable def Qf (v2:(List zz)) (k7:Nat) (x10:zz) (v32:Bool):Option (Unit ⊕ (Int)):=
 if v32 then (some (.inr 1)) else (if decide ((k7:Int)=0) then (z2p) else ((at? v2 ((k7:Int) - 1)).bind fun (x35:zz)=>if ((Op.bytesLess x10.Instance x35.Instance) || ((decide (x10.Instance=x35.Instance)) && (decide (x10.Time.From < x35.Time.To)))) then (some (.inr 7)) else (z2p)))
noncomputable def z77 (v1:(List zl)) (v2:(List zz)) (k7:Nat) (x10:zz):Option (Unit ⊕ (Int)):=
 (z59 v1 x10.Instance).bind fun r13=>if !r13.2 then (some (.inr 8)) else (if decide (x10.Time.From < 0) then (Qf v2 k7 x10 true) else (if decide (x10.Time.To≤x10.Time.From) then (Qf v2 k7 x10 true) else (if decide (345686400000 < x10.Time.To) then (Qf v2 k7 x10 true) else ((jv x10.Status 100 599).bind fun r22=>if r22 then (Qf v2 k7 x10 true) else ((jv x10.Took 0 3600000).bind fun r26=>Qf v2 k7 x10 r26)))))
noncomputable def y1w:Option (Int):=
 some 0
noncomputable def z6d (v1:(List zl)) (v2:(List zz)):Option (Int):=
 (z1s v1).bind fun r3=>if decide (r3≠0) then some r3 else (if decide (500 < (v2.length:Int)) then some 2 else (if v2.length≤1000000000 then forL (fun (k:Nat) (x:zz) (s:Unit)=>z77 v1 v2 k x) (fun (s:Unit)=>y1w) 0 v2 () else none))
noncomputable def z4p (x6:Int):Option (Int):=
 some x6
noncomputable def z1y (x1:Int) (n2:Int):Option (Int):=
 if decide (n2 < 1) then some 0 else (if n2≠0 then (if decide ((Int.tmod x1 n2) < 0) then (z4p (wr ((Int.tmod x1 n2)+n2))) else (z4p (Int.tmod x1 n2))) else none)
noncomputable def Zd (s1:zr) (n2:Int):Option (Int×zr):=
 if decide ((s1.L.length:Int)=0) then ((z1y (wr ((wr (s1.at_+1)) * 7919)) n2).bind fun r4=>some (r4,(zr.mk s1.L (wr (s1.at_+1))))) else (if (s1.L.length:Int)≠0 then (if ((0:Int)≤(wr ((wr (s1.at_+1)) - 1))∧(wr ((wr (s1.at_+1)) - 1))≤9223372036854775807)∧(0:Int) < (s1.L.length:Int) then ((at? s1.L (Int.tmod (wr ((wr (s1.at_+1)) - 1)) (s1.L.length:Int))).bind fun (x8:Int)=>(z1y x8 1073741824).bind fun r10=>(z1y (wr (r10+(wr (((wr ((wr (s1.at_+1)) - 1)) / (s1.L.length:Int)) * (wr (7919+(Int.tmod (wr ((wr (s1.at_+1)) - 1)) (s1.L.length:Int)))))))) n2).bind fun r12=>some (r12,(zr.mk s1.L (wr (s1.at_+1))))) else none) else none)
noncomputable def xj (s1:zr) (n2:Int):Option (Bool×zr):=
 (Zd s1 n2).bind fun r3=>some (decide (r3.1=0),r3.2)
noncomputable def ji (s1:zr) (l2:(List Int)):Option (Int×zr):=
 (Zd s1 (l2.length:Int)).bind fun r3=>(at? l2 r3.1).bind fun (x5:Int)=>some (x5,r3.2)
noncomputable def Wl (out28:(List zl)) (c29:(List Int)) (c30:Int):Option (((List Int)×Int×(List zl)) ⊕ ((List zl)×zr)):=
 some (.inl (c29,c30,out28))
noncomputable def Zt (l4:(List zl)) (x8:Bs) (v21:Bool) (c22:(List Int)) (c23:Int):Option (((List Int)×Int×(List zl)) ⊕ ((List zl)×zr)):=
 if v21 then ((ji (zr.mk c22 c23) [1,1,2,3,5]).bind fun r25=>if l4.length+1≤1000000000 then (Wl (l4++[(zl.mk x8 r25.1)]) r25.2.L r25.2.at_) else none) else (Wl l4 c22 c23)
noncomputable def z2b (k5:Nat) (x8:Bs) (c2:(List Int)) (c3:Int) (l4:(List zl)):Option (((List Int)×Int×(List zl)) ⊕ ((List zl)×zr)):=
 if decide ((l4.length:Int)=0) then (if decide (x8=[105,100]) then (Zt l4 x8 true c2 c3) else ((xj (zr.mk c2 c3) 4).bind fun r15=>Zt l4 x8 (!r15.1) r15.2.L r15.2.at_)) else ((xj (zr.mk c2 c3) 4).bind fun r19=>Zt l4 x8 (!r19.1) r19.2.L r19.2.at_)
noncomputable def z7n (c2:(List Int)) (c3:Int) (l4:(List zl)):Option ((List zl)×zr):=
 some (l4,(zr.mk c2 c3))
noncomputable def z0m (s1:zr):Option ((List zl)×zr):=
 if ([[105,97],[105,98],[105,99],[105,100]]).length≤1000000000 then forL (fun (k:Nat) (x:Bs) (s:(List Int)×Int×(List zl))=>z2b k x s.1 s.2.1 s.2.2) (fun (s:(List Int)×Int×(List zl))=>z7n s.1 s.2.1 s.2.2) 0 ([[105,97],[105,98],[105,99],[105,100]]) (s1.L,s1.at_,[]) else none
noncomputable def z34 (s1:zr):Option (wn×zr):=
 (ji s1 [1,10,50,100,1000]).bind fun r2=>(ji r2.2 [0,1,2,5]).bind fun r4=>(ji r4.2 [0,100,333,500,1000]).bind fun r6=>some ((wn.mk r2.1 r4.1 r6.1),r6.2)
noncomputable def z33 (s1:zr):Option (vo×zr):=
 (ji s1 [1,2,2,3]).bind fun r2=>(ji r2.2 [1,5,10]).bind fun r4=>(ji r4.2 [0,333,500,1000]).bind fun r6=>(ji r6.2 [1,2,3,8]).bind fun r8=>some ((vo.mk r2.1 r4.1 (wr (r4.1 * r8.1)) r6.1),r8.2)
noncomputable def z60 (s1:zr):Option (qb×zr):=
 (z0m s1).bind fun r2=>(ji r2.2 [1,2,3,5]).bind fun r4=>(ji r4.2 [1,10,20,50]).bind fun r6=>(ji r6.2 [0,0,5,10]).bind fun r8=>(z34 r8.2).bind fun r10=>(z33 r10.2).bind fun r12=>(ji r12.2 [1,2,4]).bind fun r14=>some ((qb.mk r2.1 r4.1 r6.1 r8.1 (wr (r8.1 * r14.1)) r10.1 r12.1),r14.2)
noncomputable def z1w (s1:zr) (l2:(List Bs)):Option (Bs×zr):=
 (Zd s1 (l2.length:Int)).bind fun r3=>(at? l2 r3.1).bind fun (x5:Bs)=>some (x5,r3.2)
noncomputable def z1x (s1:zr) (low2:Int) (high3:Int):Option (Int×zr):=
 if decide (high3 < low2) then (some (low2,s1)) else ((Zd s1 (wr ((wr (high3 - low2))+1))).bind fun r5=>some (wr (low2+r5.1),r5.2))
noncomputable def jw (s1:zr) (low2:Int) (high3:Int):Option (Int×zr):=
 (xj s1 12).bind fun r4=>if r4.1 then ((ji r4.2 [wr (low2 - 1),wr (high3+1),low2,high3,(-1099511627776),1099511627776]).bind fun r7=>some (r7.1,r7.2)) else ((z1x r4.2 low2 high3).bind fun r9=>some (r9.1,r9.2))
noncomputable def z2c (out15:(List zl)) (c16:(List Int)) (c17:Int):Option ((List zl)×zr):=
 (xj (zr.mk c16 c17) 25).bind fun r18=>if r18.1 then (some ([],r18.2)) else (some (out15,r18.2))
noncomputable def z65 (s1:zr):Option ((List zl)×zr):=
 (z0m s1).bind fun r2=>(xj r2.2 15).bind fun r4=>if r4.1 then ((Zd r4.2 (r2.1.length:Int)).bind fun r7=>(at? r2.1 r7.1).bind fun (x9:zl)=>(z1w r7.2 ([x9.Key,[],[65],[105,97]])).bind fun r11=>(jw r11.2 1 100).bind fun r13=>z2c ((r2.1.set r7.1.toNat (zl.mk r11.1 x9.Weight)).set r7.1.toNat (zl.mk r11.1 r13.1)) r13.2.L r13.2.at_) else (z2c r2.1 r4.2.L r4.2.at_)
noncomputable def z7o (c13:(List Int)) (c14:Int) (c15:Int) (c16:Int) (c17:Int):Option (wn×zr):=
 some ((wn.mk c15 c16 c17),(zr.mk c13 c14))
noncomputable def z67 (s1:zr):Option (wn×zr):=
 (z34 s1).bind fun r2=>(xj r2.2 15).bind fun r4=>if r4.1 then ((jw r4.2 1 3600000).bind fun r7=>(jw r7.2 0 300).bind fun r9=>(jw r9.2 0 1000).bind fun r11=>z7o r11.2.L r11.2.at_ r7.1 r9.1 r11.1) else (z7o r4.2.L r4.2.at_ r2.1.Window r2.1.Least r2.1.Part)
noncomputable def z4m (c15:(List Int)) (c16:Int) (c17:Int) (c18:Int) (c19:Int) (c20:Int):Option (vo×zr):=
 some ((vo.mk c17 c18 c19 c20),(zr.mk c15 c16))
noncomputable def z64 (s1:zr):Option (vo×zr):=
 (z33 s1).bind fun r2=>(xj r2.2 15).bind fun r4=>if r4.1 then ((jw r4.2 1 100).bind fun r7=>(jw r7.2 1 20).bind fun r9=>(jw r9.2 1 3600000).bind fun r11=>(jw r11.2 0 1000).bind fun r13=>z4m r13.2.L r13.2.at_ r7.1 r9.1 r11.1 r13.1) else (z4m r4.2.L r4.2.at_ r2.1.Fails r2.1.Base r2.1.Most r2.1.Share)
noncomputable def Wj (c26:(List Int)) (c27:Int) (c28:(List zl)) (c29:Int) (c30:Int) (c31:Int) (c32:Int) (c33:Int) (c34:Int) (c35:Int) (c36:Int) (c37:Int) (c38:Int) (c39:Int):Option (qb×zr):=
 some ((qb.mk c28 c29 c30 c31 c32 (wn.mk c33 c34 c35) (vo.mk c36 c37 c38 c39)),(zr.mk c26 c27))
noncomputable def z6z (s1:zr):Option (qb×zr):=
 (z60 s1).bind fun r2=>(xj r2.2 10).bind fun r4=>if r4.1 then ((Zd r4.2 4).bind fun r7=>if decide (r7.1=0) then ((z65 r7.2).bind fun r10=>Wj r10.2.L r10.2.at_ r10.1 r2.1.Tries r2.1.Timeout r2.1.Wait r2.1.MostWait r2.1.Budget.Window r2.1.Budget.Least r2.1.Budget.Part r2.1.Outliers.Fails r2.1.Outliers.Base r2.1.Outliers.Most r2.1.Outliers.Share) else (if decide (r7.1=1) then ((jw r7.2 1 5).bind fun r13=>(jw r13.2 1 3600000).bind fun r15=>Wj r15.2.L r15.2.at_ r2.1.Instances r13.1 r15.1 r2.1.Wait r2.1.MostWait r2.1.Budget.Window r2.1.Budget.Least r2.1.Budget.Part r2.1.Outliers.Fails r2.1.Outliers.Base r2.1.Outliers.Most r2.1.Outliers.Share) else (if decide (r7.1=2) then ((jw r7.2 0 10).bind fun r18=>(jw r18.2 0 3600000).bind fun r20=>Wj r20.2.L r20.2.at_ r2.1.Instances r2.1.Tries r2.1.Timeout r18.1 r20.1 r2.1.Budget.Window r2.1.Budget.Least r2.1.Budget.Part r2.1.Outliers.Fails r2.1.Outliers.Base r2.1.Outliers.Most r2.1.Outliers.Share) else ((z67 r7.2).bind fun r22=>(z64 r22.2).bind fun r24=>Wj r24.2.L r24.2.at_ r2.1.Instances r2.1.Tries r2.1.Timeout r2.1.Wait r2.1.MostWait r22.1.Window r22.1.Least r22.1.Part r24.1.Fails r24.1.Base r24.1.Most r24.1.Share)))) else (Wj r4.2.L r4.2.at_ r2.1.Instances r2.1.Tries r2.1.Timeout r2.1.Wait r2.1.MostWait r2.1.Budget.Window r2.1.Budget.Least r2.1.Budget.Part r2.1.Outliers.Fails r2.1.Outliers.Base r2.1.Outliers.Most r2.1.Outliers.Share)
noncomputable def y02 (k9:Nat) (v5:Int) (c6:(List Int)) (c7:Int) (l8:(List yi)):Option ((Int×(List Int)×Int×(List yi)) ⊕ ((List yi)×zr)):=
 (ji (zr.mk c6 c7) [0,0,1,5,10,40]).bind fun r13=>if [99].length+(encL (IntKind.wrap .i32 (wr (97+(k9:Int))))).length≤1000000000 then (if l8.length+1≤1000000000 then (some (.inl (wr (v5+r13.1),r13.2.L,r13.2.at_,(l8++([(yi.mk ([99]++(encL (IntKind.wrap .i32 (wr (97+(k9:Int)))))) (wr (v5+r13.1)))]))))) else none) else none
noncomputable def y03 (v5:Int) (c6:(List Int)) (c7:Int) (l8:(List yi)):Option ((List yi)×zr):=
 some (l8,(zr.mk c6 c7))
noncomputable def z62 (s1:zr) (most2:Int):Option ((List yi)×zr):=
 (z1x s1 0 most2).bind fun r3=>if r3.1≤1000000000 then rng (fun (k:Nat) (s:Int×(List Int)×Int×(List yi))=>y02 k s.1 s.2.1 s.2.2.1 s.2.2.2) (fun (s:Int×(List Int)×Int×(List yi))=>y03 s.1 s.2.1 s.2.2.1 s.2.2.2) r3.1.toNat 0 (0,r3.2.L,r3.2.at_,[]) else none
noncomputable def z4o (out22:(List yi)) (c23:(List Int)) (c24:Int):Option ((List yi)×zr):=
 some (out22,(zr.mk c23 c24))
noncomputable def z4n (r3:((List yi)×zr)) (v10:Bool) (c11:(List Int)) (c12:Int):Option ((List yi)×zr):=
 if v10 then ((Zd (zr.mk c11 c12) (r3.1.length:Int)).bind fun r14=>(at? r3.1 r14.1).bind fun (x16:yi)=>(z1w r14.2 ([x16.Id,[],[99,97]])).bind fun r18=>(jw r18.2 0 100).bind fun r20=>z4o ((r3.1.set r14.1.toNat (yi.mk r18.1 x16.At)).set r14.1.toNat (yi.mk r18.1 r20.1)) r20.2.L r20.2.at_) else (z4o r3.1 c11 c12)
noncomputable def z66 (s1:zr) (most2:Int):Option ((List yi)×zr):=
 (z62 s1 most2).bind fun r3=>if decide (0 < (r3.1.length:Int)) then ((xj r3.2 12).bind fun r7=>z4n r3 r7.1 r7.2.L r7.2.at_) else (z4n r3 false r3.2.L r3.2.at_)
noncomputable def y0y (x9:zl) (k18:Nat) (v14:Int) (c15:(List Int)) (c16:Int) (l17:(List zz)):Option ((Int×(List Int)×Int×(List zz)) ⊕ (((List Int)×Int×(List zz)) ⊕ ((List zz)×zr))):=
 (ji (zr.mk c15 c16) [0,0,20]).bind fun r22=>(ji r22.2 [10,30,100,1000]).bind fun r24=>(ji r24.2 [200,200,404,500,503]).bind fun r26=>(ji r26.2 [0,0,3,10,20,50]).bind fun r28=>if l17.length+1≤1000000000 then (some (.inl (wr ((wr (v14+r22.1))+r24.1),r28.2.L,r28.2.at_,(l17++[(zz.mk x9.Key (ka.mk (wr (v14+r22.1)) (wr ((wr (v14+r22.1))+r24.1))) r26.1 r28.1)])))) else none
noncomputable def y00 (v14:Int) (c15:(List Int)) (c16:Int) (l17:(List zz)):Option (((List Int)×Int×(List zz)) ⊕ ((List zz)×zr)):=
 some (.inl (c15,c16,l17))
noncomputable def y0z (k6:Nat) (x9:zl) (c3:(List Int)) (c4:Int) (l5:(List zz)):Option (((List Int)×Int×(List zz)) ⊕ ((List zz)×zr)):=
 (z1x (zr.mk c3 c4) 0 3).bind fun r12=>if r12.1≤1000000000 then rng (fun (k:Nat) (s:Int×(List Int)×Int×(List zz))=>y0y x9 k s.1 s.2.1 s.2.2.1 s.2.2.2) (fun (s:Int×(List Int)×Int×(List zz))=>y00 s.1 s.2.1 s.2.2.1 s.2.2.2) r12.1.toNat 0 (0,r12.2.L,r12.2.at_,l5) else none
noncomputable def y01 (c3:(List Int)) (c4:Int) (l5:(List zz)):Option ((List zz)×zr):=
 some (l5,(zr.mk c3 c4))
noncomputable def z61 (s1:zr) (l2:(List zl)):Option ((List zz)×zr):=
 if l2.length≤1000000000 then forL (fun (k:Nat) (x:zl) (s:(List Int)×Int×(List zz))=>y0z k x s.1 s.2.1 s.2.2) (fun (s:(List Int)×Int×(List zz))=>y01 s.1 s.2.1 s.2.2) 0 l2 (s1.L,s1.at_,[]) else none
noncomputable def z4l (out26:(List zz)) (c27:(List Int)) (c28:Int):Option ((List zz)×zr):=
 some (out26,(zr.mk c27 c28))
noncomputable def z4k (r3:((List zz)×zr)) (v10:Bool) (c11:(List Int)) (c12:Int):Option ((List zz)×zr):=
 if v10 then ((Zd (zr.mk c11 c12) (r3.1.length:Int)).bind fun r14=>(at? r3.1 r14.1).bind fun (x16:zz)=>(z1w r14.2 ([x16.Instance,[110,111,110,101]])).bind fun r18=>(jw r18.2 0 50).bind fun r20=>(jw r20.2 100 599).bind fun r22=>(jw r22.2 0 3600000).bind fun r24=>z4l ((((r3.1.set r14.1.toNat (zz.mk r18.1 x16.Time x16.Status x16.Took)).set r14.1.toNat (zz.mk r18.1 (ka.mk r20.1 x16.Time.To) x16.Status x16.Took)).set r14.1.toNat (zz.mk r18.1 (ka.mk r20.1 x16.Time.To) r22.1 x16.Took)).set r14.1.toNat (zz.mk r18.1 (ka.mk r20.1 x16.Time.To) r22.1 r24.1)) r24.2.L r24.2.at_) else (z4l r3.1 c11 c12)
noncomputable def z63 (s1:zr) (l2:(List zl)):Option ((List zz)×zr):=
 (z61 s1 l2).bind fun r3=>if decide (0 < (r3.1.length:Int)) then ((xj r3.2 12).bind fun r7=>z4k r3 r7.1 r7.2.L r7.2.at_) else (z4k r3 false r3.2.L r3.2.at_)
noncomputable def y0m (some2:Bs) (k3:Nat) (x6:UInt8):Option (Unit ⊕ (Bool)):=
 (y3o some2 (x6.toNat:Int)).bind fun r9=>if decide (r9 < 0) then (some (.inr false)) else (some (.inl ()))
noncomputable def y34:Option (Bool):=
 some true
noncomputable def z3w (s1:Bs) (some2:Bs):Option (Bool):=
 if s1.length≤1000000000 then forL (fun (k:Nat) (x:UInt8) (s:Unit)=>y0m some2 k x) (fun (s:Unit)=>y34) 0 s1 () else none
noncomputable def z18 (v16:Bool):Option (Bool):=
 some v16
noncomputable def z31 (s1:Bs):Option (Bool):=
 (vy (s1.length:Int) 1 40).bind fun r2=>if r2 then ((sub? s1 0 1).bind fun (l6:Bs)=>(z3w l6 [97,98,99,100,101,102,103,104,105,106,107,108,109,110,111,112,113,114,115,116,117,118,119,120,121,122]).bind fun r8=>if r8 then ((z3w s1 [97,98,99,100,101,102,103,104,105,106,107,108,109,110,111,112,113,114,115,116,117,118,119,120,121,122,48,49,50,51,52,53,54,55,56,57,45,95]).bind fun r12=>z18 r12) else (z18 false)) else (z18 false)
noncomputable def z19 (k4:Nat) (x7:zl) (last3:Bs):Option (Bs ⊕ (Int)):=
 (z31 x7.Key).bind fun r10=>if !r10 then (some (.inr 5)) else (if (Op.bytesLess x7.Key last3 || x7.Key == last3) then (some (.inr 7)) else ((vy x7.Weight 1 100).bind fun r14=>if !r14 then (some (.inr 1)) else (some (.inl x7.Key))))
noncomputable def y0u (last3:Bs):Option (Int):=
 some 0
noncomputable def z6v (l1:(List zl)):Option (Int):=
 if decide (50 < (l1.length:Int)) then some 2 else (if l1.length≤1000000000 then forL (fun (k:Nat) (x:zl) (s:Bs)=>z19 k x s) (fun (s:Bs)=>y0u s) 0 l1 [] else none)
noncomputable def z2a (v14:Bool):Option (Int):=
 if v14 then some 1 else some 0
noncomputable def z6y (b1:wn):Option (Int):=
 (vy b1.Window 1 3600000).bind fun r2=>if !r2 then (z2a true) else ((vy b1.Least 0 300).bind fun r6=>if !r6 then (z2a true) else ((vy b1.Part 0 1000).bind fun r10=>z2a (!r10)))
noncomputable def z0s (v17:Bool):Option (Int):=
 if v17 then some 1 else some 0
noncomputable def z6r (o1:vo):Option (Int):=
 (vy o1.Fails 1 100).bind fun r2=>if !r2 then (z0s true) else ((vy o1.Base 1 o1.Most).bind fun r6=>if !r6 then (z0s true) else (if decide (3600000 < o1.Most) then (z0s true) else ((vy o1.Share 0 1000).bind fun r12=>z0s (!r12))))
noncomputable def z0p (s1:qb) (v20:Bool):Option (Int):=
 if v20 then some 1 else ((z6y s1.Budget).bind fun r22=>if decide (r22≠0) then some r22 else ((z6r s1.Outliers).bind fun r25=>some r25))
noncomputable def z6m (s1:qb):Option (Int):=
 (z6v s1.Instances).bind fun r2=>if decide (r2≠0) then some r2 else ((vy s1.Tries 1 5).bind fun r5=>if !r5 then (z0p s1 true) else ((vy s1.Timeout 1 3600000).bind fun r9=>if !r9 then (z0p s1 true) else ((vy s1.Wait 0 s1.MostWait).bind fun r13=>if !r13 then (z0p s1 true) else (z0p s1 (decide (3600000 < s1.MostWait))))))
noncomputable def Qt (p1:zl→Option (Bool)) (k2:Nat) (x5:zl):Option (Unit ⊕ (Int)):=
 (p1 x5).bind fun r8=>if r8 then (some (.inr (k2:Int))) else (some (.inl ()))
noncomputable def z87:Option (Int):=
 some (-1)
noncomputable def z92 (s1:(List zl)) (p1:zl→Option (Bool)):Option (Int):=
 if s1.length≤1000000000 then forL (fun (k:Nat) (x:zl) (s:Unit)=>Qt p1 k x) (fun (s:Unit)=>z87) 0 s1 () else none
noncomputable def z0l (x1:zl) (c2:Bs):Option (Bool):=
 some (decide (x1.Key=c2))
noncomputable def z6w (l1:(List zl)) (key2:Bs):Option (Int):=
 (z92 l1 (fun (a0:zl)=>z0l a0 key2)).bind fun r3=>some r3
noncomputable def z0r (v42:Bool):Option (Unit ⊕ (Int)):=
 if v42 then (some (.inr 7)) else (some (.inl ()))
noncomputable def Wi (v2:(List zz)) (k4:Nat) (x7:zz) (v29:Bool):Option (Unit ⊕ (Int)):=
 if v29 then (some (.inr 1)) else (if decide (0 < (k4:Int)) then ((at? v2 ((k4:Int) - 1)).bind fun (x33:zz)=>if Op.bytesLess x7.Instance x33.Instance then (z0r true) else (if decide (x7.Instance=x33.Instance) then (z0r (decide (x7.Time.From < x33.Time.To))) else (z0r false))) else (z0r false))
noncomputable def y0p (v1:(List zl)) (v2:(List zz)) (k4:Nat) (x7:zz):Option (Unit ⊕ (Int)):=
 (z6w v1 x7.Instance).bind fun r10=>if decide (r10 < 0) then (some (.inr 8)) else (if decide (x7.Time.From < 0) then (Wi v2 k4 x7 true) else (if decide (x7.Time.To≤x7.Time.From) then (Wi v2 k4 x7 true) else (if decide (345686400000 < x7.Time.To) then (Wi v2 k4 x7 true) else ((vy x7.Status 100 599).bind fun r19=>if !r19 then (Wi v2 k4 x7 true) else ((vy x7.Took 0 3600000).bind fun r23=>Wi v2 k4 x7 (!r23))))))
noncomputable def y35:Option (Int):=
 some 0
noncomputable def z6q (v1:(List zl)) (v2:(List zz)):Option (Int):=
 if decide (500 < (v2.length:Int)) then some 2 else (if v2.length≤1000000000 then forL (fun (k:Nat) (x:zz) (s:Unit)=>y0p v1 v2 k x) (fun (s:Unit)=>y35) 0 v2 () else none)
noncomputable def Qu (p1:yi→Option (Bool)) (k2:Nat) (x5:yi):Option (Unit ⊕ (Int)):=
 (p1 x5).bind fun r8=>if r8 then (some (.inr (k2:Int))) else (some (.inl ()))
noncomputable def z88:Option (Int):=
 some (-1)
noncomputable def z93 (s1:(List yi)) (p1:yi→Option (Bool)):Option (Int):=
 if s1.length≤1000000000 then forL (fun (k:Nat) (x:yi) (s:Unit)=>Qu p1 k x) (fun (s:Unit)=>z88) 0 s1 () else none
noncomputable def z6h (s1:(List yi)) (p1:yi→Option (Bool)):Option (Bool):=
 (z93 s1 p1).bind fun r2=>some (decide (0≤r2))
noncomputable def Wc (o1:yi) (c2:yi):Option (Bool):=
 some (decide (o1.Id=c2.Id))
noncomputable def y0b (v1:Int):Option (Bool):=
 (vy v1 0 345686399999).bind fun r2=>some r2
noncomputable def z4j (v25:Bool):Option (Unit ⊕ (Int)):=
 if v25 then (some (.inr 7)) else (some (.inl ()))
noncomputable def y0v (l1:(List yi)) (k3:Nat) (x6:yi):Option (Unit ⊕ (Int)):=
 (z31 x6.Id).bind fun r9=>if !r9 then (some (.inr 5)) else ((sub? l1 0 (k3:Int)).bind fun (l12:(List yi))=>(z6h l12 (fun (a0:yi)=>Wc a0 x6)).bind fun r14=>if r14 then (some (.inr 6)) else ((y0b x6.At).bind fun r17=>if !r17 then (some (.inr 1)) else (if decide (0 < (k3:Int)) then ((at? l1 ((k3:Int) - 1)).bind fun (x22:yi)=>z4j (decide (x6.At < x22.At))) else (z4j false))))
noncomputable def y36:Option (Int):=
 some 0
noncomputable def z6x (l1:(List yi)):Option (Int):=
 if decide (300 < (l1.length:Int)) then some 2 else (if l1.length≤1000000000 then forL (fun (k:Nat) (x:yi) (s:Unit)=>y0v l1 k x) (fun (s:Unit)=>y36) 0 l1 () else none)
noncomputable def z35 (is1:Bool) (e2:Int):Option (Int):=
 if is1 then some e2 else some 0
noncomputable def z4q (k2:Nat) (x5:Int):Option (Unit ⊕ (Int)):=
 if decide (x5≠0) then (some (.inr x5)) else (some (.inl ()))
noncomputable def y04:Option (Int):=
 some 0
noncomputable def z68 (l1:(List Int)):Option (Int):=
 if l1.length≤1000000000 then forL (fun (k:Nat) (x:Int) (s:Unit)=>z4q k x) (fun (s:Unit)=>y04) 0 l1 () else none
noncomputable def z9a (s2:(List yf)) (p2:yf→yf→Option (Bool)) (k4:Nat) (x7:yf):Option (Unit ⊕ (Bool)):=
 (s2[k4]?).bind fun (x10:yf)=>(p2 x7 x10).bind fun r12=>if !r12 then (some (.inr false)) else (some (.inl ()))
noncomputable def y21:Option (Bool):=
 some true
noncomputable def z94 (s1:(List yf)) (s2:(List yf)) (p2:yf→yf→Option (Bool)):Option (Bool):=
 if decide ((s1.length:Int)≠(s2.length:Int)) then some false else (if s1.length≤1000000000 then forL (fun (k:Nat) (x:yf) (s:Unit)=>z9a s2 p2 k x) (fun (s:Unit)=>y21) 0 s1 () else none)
noncomputable def z89 (s2:(List qc)) (k4:Nat) (x7:qc):Option (Unit ⊕ (Bool)):=
 (s2[k4]?).bind fun (x10:qc)=>if (!((x7.Instance == x10.Instance) && ((x7.Sent == x10.Sent) && ((x7.Done == x10.Done) && ((x7.Status == x10.Status) && true))))) then (some (.inr false)) else (some (.inl ()))
noncomputable def y20:Option (Bool):=
 some true
noncomputable def z6g (s1:(List qc)) (s2:(List qc)):Option (Bool):=
 if decide ((s1.length:Int)≠(s2.length:Int)) then some false else (if s1.length≤1000000000 then forL (fun (k:Nat) (x:qc) (s:Unit)=>z89 s2 k x) (fun (s:Unit)=>y20) 0 s1 () else none)
noncomputable def z0q (v14:Bool):Option (Bool):=
 some v14
noncomputable def z6o (x1:yf) (y2:yf):Option (Bool):=
 if decide (x1.Call=y2.Call) then (if decide (x1.Done=y2.Done) then (if decide (x1.Status=y2.Status) then ((z6g x1.Tries y2.Tries).bind fun r9=>z0q r9) else (z0q false)) else (z0q false)) else (z0q false)
noncomputable def z3z (a1:(List yf)) (b2:(List yf)):Option (Bool):=
 (z94 a1 b2 (fun (a0:yf) (a1:yf)=>z6o a0 a1)).bind fun r3=>some r3
noncomputable def z7f (a8:Int):Option (Int):=
 if -9223372036854775807≤a8∧a8≤9223372036854775807 then (some (max a8 (-a8))) else none
noncomputable def z12 (a3:Int) (b4:Int):Option ((Int×Int) ⊕ (Int)):=
 if decide (b4≠0) then (if b4≠0 then (some (.inl (b4,(Int.tmod a3 b4)))) else none) else (Option.map .inr (z7f a3))
noncomputable def z99 (a1:Int) (b2:Int):Option (Int):=
 iter (fun (s:Int×Int)=>z12 s.1 s.2) (a1,b2)
noncomputable def z39 (num6:Int) (den7:Int):Option (va):=
 (z99 num6 den7).bind fun r8=>if ((0:Int)≤num6∧num6≤9223372036854775807)∧(0:Int) < r8 then (if ((0:Int)≤den7∧den7≤9223372036854775807)∧(0:Int) < r8 then (some (va.mk (num6 / r8) (den7 / r8))) else none) else none
noncomputable def z6j (num1:Int) (den2:Int):Option (va):=
 if decide (den2 < 0) then (if -9223372036854775807≤num1∧num1≤9223372036854775807 then (if -9223372036854775807≤den2∧den2≤9223372036854775807 then (z39 (-num1) (-den2)) else none) else none) else (z39 num1 den2)
noncomputable def z2o (n16:Int):Option (Int ⊕ (va×Int)):=
 some (.inl n16)
noncomputable def z42 (k5:Nat) (x8:yf) (n4:Int):Option (Int ⊕ (va×Int)):=
 (jv x8.Status 100 499).bind fun r13=>if !r13 then (z2o (wr (n4+1))) else (z2o n4)
noncomputable def z43 (l1:(List yf)) (n4:Int):Option (va×Int):=
 (z6j n4 (l1.length:Int)).bind fun r9=>some (r9,0)
noncomputable def z1r (l1:(List yf)):Option (va×Int):=
 if decide ((l1.length:Int)=0) then (some ((va.mk 0 0),8)) else (if decide (300 < (l1.length:Int)) then (some ((va.mk 0 0),2)) else (if l1.length≤1000000000 then forL (fun (k:Nat) (x:yf) (s:Int)=>z42 k x s) (fun (s:Int)=>z43 l1 s) 0 l1 0 else none))
noncomputable def y1q (k3:Nat) (x6:zl) (sum2:Int):Option (Int ⊕ (Int)):=
 some (.inl (wr (sum2+x6.Weight)))
noncomputable def y1r (sum2:Int):Option (Int):=
 some sum2
noncomputable def y3m (l1:(List zl)):Option (Int):=
 if l1.length≤1000000000 then forL (fun (k:Nat) (x:zl) (s:Int)=>y1q k x s) (fun (s:Int)=>y1r s) 0 l1 0 else none
noncomputable def z44 (v39:Int) (v40:(List Int)):Option ((Int×(List Int)) ⊕ (((List Int)×(List Bs)) ⊕ ((List Bs)×Int))):=
 some (.inl (v39,v40))
noncomputable def y1s (k21:Nat) (x24:zl) (v19:Int) (l20:(List Int)):Option ((Int×(List Int)) ⊕ (((List Int)×(List Bs)) ⊕ ((List Bs)×Int))):=
 (l20[k21]?).bind fun (x32:Int)=>((l20.set k21 (wr (x32+x24.Weight)))[k21]?).bind fun (x34:Int)=>(at? (l20.set k21 (wr (x32+x24.Weight))) v19).bind fun (x36:Int)=>if decide (x36 < x34) then (z44 (k21:Int) (l20.set k21 (wr (x32+x24.Weight)))) else (z44 v19 (l20.set k21 (wr (x32+x24.Weight))))
noncomputable def y1u (v1:(List zl)) (r11:(Int)) (l14:(List Bs)) (v19:Int) (l20:(List Int)):Option (((List Int)×(List Bs)) ⊕ ((List Bs)×Int)):=
 (at? l20 v19).bind fun (x25:Int)=>(at? v1 v19).bind fun (x27:zl)=>if l14.length+1≤1000000000 then (some (.inl ((l20.set v19.toNat (wr (x25 - r11))),(l14++[x27.Key])))) else none
noncomputable def y1t (v1:(List zl)) (r11:(Int)) (k15:Nat) (l13:(List Int)) (l14:(List Bs)):Option (((List Int)×(List Bs)) ⊕ ((List Bs)×Int)):=
 if v1.length≤1000000000 then forL (fun (k:Nat) (x:zl) (s:Int×(List Int))=>y1s k x s.1 s.2) (fun (s:Int×(List Int))=>y1u v1 r11 l14 s.1 s.2) 0 v1 (0,l13) else none
noncomputable def y1v (l13:(List Int)) (l14:(List Bs)):Option ((List Bs)×Int):=
 some (l14,0)
noncomputable def y3n (v1:(List zl)) (v2:Int):Option ((List Bs)×Int):=
 (z1s v1).bind fun r3=>if decide (r3≠0) then (some ([],r3)) else ((jv v2 0 2000).bind fun r6=>if r6 then (some ([],1)) else (if decide ((v1.length:Int)=0) then (some ([],8)) else (if v1.length≤1000000000 then ((y3m v1).bind fun r11=>if v2≤1000000000 then rng (fun (k:Nat) (s:(List Int)×(List Bs))=>y1t v1 r11 k s.1 s.2) (fun (s:(List Int)×(List Bs))=>y1v s.1 s.2) v2.toNat 0 ((List.replicate v1.length 0),[]) else none) else none)))
noncomputable def y2y (s2:(List Bs)) (k4:Nat) (x7:Bs):Option (Unit ⊕ (Bool)):=
 (s2[k4]?).bind fun (x10:Bs)=>if decide (x7≠x10) then (some (.inr false)) else (some (.inl ()))
noncomputable def y2z:Option (Bool):=
 some true
noncomputable def y3r (s1:(List Bs)) (s2:(List Bs)):Option (Bool):=
 if decide ((s1.length:Int)≠(s2.length:Int)) then some false else (if s1.length≤1000000000 then forL (fun (k:Nat) (x:Bs) (s:Unit)=>y2y s2 k x) (fun (s:Unit)=>y2z) 0 s1 () else none)
noncomputable def z7p (v8:Bool):Option (Bool):=
 some v8
noncomputable def z69  : Option (Bool):=
 (y3n ([(zl.mk [97] 1),(zl.mk [98] 2)]) 3).bind fun r1=>if decide (r1.2=0) then ((y3r r1.1 ([[98],[97],[98]])).bind fun r5=>z7p r5) else (z7p false)
noncomputable def z4h (num1:Int) (den2:Int) (a11:Int):Option (va):=
 if ((0:Int)≤num1∧num1≤9223372036854775807)∧(0:Int) < a11 then (if ((0:Int)≤den2∧den2≤9223372036854775807)∧(0:Int) < a11 then (some (va.mk (num1 / a11) (den2 / a11))) else none) else none
noncomputable def z17 (num1:Int) (den2:Int) (a8:Int):Option (va):=
 if decide (a8 < 0) then (if -9223372036854775807≤a8∧a8≤9223372036854775807 then (z4h num1 den2 (-a8)) else none) else (z4h num1 den2 a8)
noncomputable def z16 (num1:Int) (den2:Int) (a3:Int) (b4:Int):Option ((Int×Int) ⊕ (va)):=
 if decide (b4≠0) then (if b4≠0 then (some (.inl (b4,(Int.tmod a3 b4)))) else none) else (Option.map .inr (z17 num1 den2 a3))
noncomputable def z6t (num1:Int) (den2:Int):Option (va):=
 iter (fun (s:Int×Int)=>z16 num1 den2 s.1 s.2) (num1,den2)
noncomputable def z4f (n14:Int):Option (Int ⊕ (va)):=
 some (.inl n14)
noncomputable def z7l (k3:Nat) (x6:yf) (n2:Int):Option (Int ⊕ (va)):=
 (vy x6.Status 100 499).bind fun r11=>if r11 then (z4f (wr (n2+1))) else (z4f n2)
noncomputable def z7m (l1:(List yf)) (n2:Int):Option (va):=
 (z6t n2 (l1.length:Int)).bind fun r7=>some r7
noncomputable def z6n (l1:(List yf)):Option (va):=
 if l1.length≤1000000000 then forL (fun (k:Nat) (x:yf) (s:Int)=>z7l k x s) (fun (s:Int)=>z7m l1 s) 0 l1 0 else none
end Go.Proofs.YtgdijjmdfcgifaaGreat
