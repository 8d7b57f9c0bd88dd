/- Plain: entries of a cache, the program's and the document's. -/
import Derived.Test.YtmdllhcjefcggacGreatDoorQyZm
import Derived.Test.YtmdllhcjefcggacGreatDoorSrZm
namespace Go.Proofs.YtmdllhcjefcggacGreatDoor
set_option linter.unusedVariables false
set_option maxRecDepth 20000
def qOK (q:Bs):Prop:=(spl 38 q).length≤12∨((spl 38 q).filter fun x => !decide (x=[])).length=101
theorem y72 {k:Int} {s:zr} (h:SB k s) (hk:k≤1000000) (m:Nat) (hm:m≤1000) (sep:Bs) (hsep:sep.length≤10) (l:List Bs) (hl:l≠[]∧l.length≤1000) (hB:∀ x,x∈l→x.length≤20) :
  Ok (kt s (m:Int) sep l) fun r=>(∃ ws:List Bs,ws.length=m∧(∀ w,w∈ws→w∈l)∧r.1=Lib.join ws sep∧r.1.length≤30000)∧SB (k+m) r.2:=by
 unfold kt
 refine ok_g (by omega) ?_
 rw [Int.toNat_natCast]
 refine z7j (fun j (q:List Int×Int×List Bs)=>j≤m∧SB (k+(j:Int)) (zr.mk q.1 q.2.1)∧q.2.2.length=j∧∀ x,x∈q.2.2→x∈l) m 0 _ ⟨by omega,h.mono (by omega),by simp,by simp⟩ ?_ ?_
 ·rintro j ⟨c5,c6,l7⟩ _ hj ⟨h0,h1,h2,h3⟩
  simp only at h1 h2 h3 ⊢
  unfold z57
  refine yf (xx h1 (by omega) l hl) fun r hr=>ok_g (by omega) (qg ?_)
  refine ⟨by omega,hr.2.mono (by omega),by simp; omega,fun x hx => ?_⟩
  rcases List.mem_append.1 hx with h | h
  ·exact h3 x h
  ·have:x=r.1:=by simpa using h
   rw [this]; exact hr.1
 ·rintro ⟨c5,c6,l7⟩ ⟨h0,h1,h2,h3⟩
  simp only at h1 h2 h3 ⊢
  have hj:=z45 20 sep l7 fun x hx=>hB x (h3 x hx)
  have hmm:l7.length * (20+sep.length)≤1000 * 30:=Nat.mul_le_mul (by omega) (by omega)
  unfold z58
  have hJ:jl l7 sep=some (Lib.join l7 sep):=by
   unfold jl
   rw [if_pos ⟨by omega,by omega⟩]
  rw [hJ]
  exact qg ⟨⟨l7,by omega,h3,rfl,by simp only; omega⟩,h1.mono (by omega)⟩
theorem x3t:∀ l:List Bs,(∀ x,x∈l→(38:UInt8) ∉ x)→(l.map (spl 38)).flatten=l
 | [],_=>rfl
 | x::l,h=>by
  rw [List.map_cons,List.flatten_cons,y4o 38 x (h x (by simp)),x3t l fun y hy=>h y (List.mem_cons_of_mem _ hy)]; rfl
theorem y9v (ws:List Bs) (h:∀ x,x∈ws→(38:UInt8) ∉ x) (hn:ws≠[]):spl 38 (Lib.join ws [38])=ws:=by
 rw [y4p 38 ws hn,x3t ws h]
theorem x89 {k:Int} {s:zr} (h:SB k s) (hk:k≤100000):Ok (z1i s) fun r=>(r.1.length≤30000∧qOK r.1)∧SB (k+200) r.2:=by
 unfold z1i z16
 refine yf (z0q h (by omega) 0 4 (by omega)) fun r hr => ?_
 obtain ⟨m,hm⟩:∃ m:Nat,r.1=(m:Int):=⟨r.1.toNat,by omega⟩
 rw [hm]
 refine yf (y72 hr.2 (by omega) m (by omega) [38] (by simp) _ ⟨by simp,by simp⟩ (by decide)) fun r2 h2=>yf (ji h2.2 (by omega) 12 (by omega)) fun r3 h3=>wh (fun _ => ?_) (fun _=>qg ⟨?_,?_⟩)
 ·refine yf (y72 h3 (by omega) 101 (by omega) [38] (by simp) [[120]] ⟨by simp,by simp⟩ (by decide)) fun r4 h4=>yf (xx h4.2 (by omega) _ ⟨by simp,by simp⟩) fun r5 h5=>qg ⟨?_,?_⟩
  ·obtain ⟨⟨ws,w1,w2,w3,w4⟩,_⟩:=h4
   have hx:∀ w,w∈ws→w=[120]:=fun w hw=>by simpa using w2 w hw
   have hq4:qOK r4.1:=by
    right
    rw [w3,y9v ws (fun x hx'=>by rw [hx x hx']; decide) (by rintro rfl; simp at w1)]
    have:(ws.filter fun x => !decide (x=[]))=ws:=List.filter_eq_self.2 fun w hw=>by rw [hx w hw]; rfl
    rw [this]; exact w1
   have hm:=h5.1
   simp only [List.mem_cons,List.not_mem_nil,or_false] at hm
   rcases hm with e | e | e | e | e | e <;> rw [e] <;> first | exact ⟨w4,hq4⟩ | exact ⟨by decide,.inl (by decide)⟩
  ·exact h5.2.mono (by omega)
 ·obtain ⟨⟨ws,w1,w2,w3,w4⟩,_⟩:=h2
  refine ⟨w4,.inl ?_⟩
  rw [w3]
  by_cases hn:ws=[]
  ·subst hn; decide
  ·have hno:∀ w:Bs,w∈([[97,61,49],[98,61,50],[97,61],[61,120],[61],[99],[],[97,61,37,52,49,43,37,50,66],[100,61,120,37,50,54,121],[98,61,37,99,51],[97,61,49,61,50],[97,63,98,61,47]]:List Bs)→(38:UInt8) ∉ w:=by decide
   rw [y9v ws (fun x hx=>hno x (w2 x hx)) hn,w1]; omega
 ·exact h3.mono (by omega)
theorem x9g (x:Bs):(prQ x).Name.length≤x.length∧(prQ x).Value.length≤x.length:=by
 obtain ⟨c1,c2⟩:=y7i x
 have hd:∀ s:Bs,((dec true s).getD []).length≤s.length:=fun s=>by
  cases hs:dec true s with
  | none=>simp
  | some d=>exact w4a true s.length s d (Nat.le_refl _) hs
 have h1:=hd (Lib.cut x [61]).1
 have h2:=hd (Lib.cut x [61]).2.1
 unfold prQ
 simp only
 omega
theorem x9f {s:Bs} (h:qOK s) (hl:(prs (spl 38 s)).length≤100):(prs (spl 38 s)).length≤12:=by
 unfold prs at hl ⊢
 rw [List.length_map] at hl ⊢
 rcases h with h | h
 ·exact Nat.le_trans (List.length_filter_le _ _) h
 ·exact absurd (Nat.le_trans (Nat.le_of_eq h.symm) hl) (by decide)
theorem x9e {s:Bs} (hs:s.length≤1000):∀ p,p∈prs (spl 38 s)→p.Name.length≤1000∧p.Value.length≤1000:=fun p hp=>by
 unfold prs at hp
 obtain ⟨x,hx,rfl⟩:=List.mem_map.1 hp
 have h1:=Qr 38 s x (List.mem_filter.1 hx).1
 have h2:=x9g x
 omega
def nilP (p:zo):Bool:=(p.Name == []) && ((p.Value == []) && true)
theorem w37 (l:List zo) (hl:l.length≤1000) (hp:∀ p,p∈l→p.Name.length≤1000∧p.Value.length≤1000) :
  z34 l (fun (a0:zo)=>z78 a0)=some (l.filter fun p => !nilP p) ∧
  z34 l (fun (a0:zo)=>z1g a0)=some (l.filter fun p => !nilP p):=by
 refine ⟨x3h (zo.mk [] []) l nilP (by omega) fun p _=>rfl,x3h (zo.mk [] []) l nilP (by omega) fun p h => ?_⟩
 have:=hp p h
 show z1g p=some (nilP p)
 unfold z1g nilP
 rw [if_pos (by omega)]
 rcases p with ⟨a,b⟩
 cases a <;> cases b <;> rfl
theorem w4o:(fun (a0:zo) (a1:zo)=>z4m a0 a1)=fun (a0:zo) (a1:zo)=>xj a0 a1:=rfl
theorem w4n (a b:zo):∃ c,xj a b=some c:=by
 unfold xj z3z
 split
 ·exact ⟨_,rfl⟩
 ·exact ⟨_,rfl⟩
theorem w0d:(List.range 13).all (fun n=>(z8a (IntKind.wrap .u64 (n:Int))).isSome)=true:=by decide +kernel
theorem lenN (n:Nat) (h:n≤12):∃ v,z8a (IntKind.wrap .u64 (n:Int))=some v:=by
 have h2:=List.all_eq_true.1 w0d n (by simp; omega)
 exact Option.isSome_iff_exists.1 h2
theorem x7y (l:List zo) (hl:l.length≤12):∃ r:List zo,r.Perm l∧z7x l (fun (a0:zo) (a1:zo)=>xj a0 a1)=some r ∧
  z7w l (fun (a0:zo) (a1:zo)=>z4m a0 a1)=some r:=by
 obtain ⟨r,r1,r2,r3⟩:=w3k (p:=fun (a0:zo) (a1:zo)=>xj a0 a1) (q:=fun (a0:zo) (a1:zo)=>xj a0 a1) (f:=fun x:zo=>x) l (by omega)
  (List.pairwise_of_forall (fun y x=>by
   obtain ⟨c,hc⟩:=w4n x y
   exact ⟨c,c,hc,hc,Iff.rfl⟩))
 have hlen:=r1.length_eq
 obtain ⟨v,hv⟩:=lenN l.length hl
 refine ⟨r,r1,?_,?_⟩
 ·unfold z7x
  rw [hv]
  simp only [Option.bind_some]
  have e:y12 l 0 (l.length:Int) v (fun (a0:zo) (a1:zo)=>xj a0 a1)=some r:=w3j l r _ v hl r2 hlen
  rw [e]
  simp only [Option.bind_some]
  rw [if_pos hlen]
 ·rw [w4o]
  unfold z7w
  have e:y11 l (l.length:Int) (fun (a0:zo) (a1:zo)=>xj a0 a1)=some r:=w3g l r _ (by omega) r2 hlen
  rw [e]
  simp only [Option.bind_some]
  rw [if_pos hlen]
def lwH (h:zt):zt:=zt.mk (lo h.Name) h.Value
def hnP (l:List zt):Prop:=l.length≤1000∧∀ y,y∈l→nmOK y
theorem y2w:hnP ([]:List zt):=⟨by simp,by simp⟩
theorem x4s {s:Bs} (h:ascB s=true):ascB (lo s)=true:=by
 unfold ascB at h ⊢
 rw [List.all_eq_true] at h ⊢
 intro c hc
 obtain ⟨d,hd,rfl⟩:=List.mem_map.1 hc
 have h1:=h d hd
 have h2:=y55 d
 simp only [decide_eq_true_eq] at h1 ⊢
 rw [h2]
 split <;> omega
theorem w3a {l:List zt} (hl:l.length≤1000) (h:∀ x,x∈l→nmOK x):hnP (l.map lwH):=by
 refine ⟨by rw [List.length_map]; exact hl,fun y hy => ?_⟩
 obtain ⟨x,hx,rfl⟩:=List.mem_map.1 hy
 obtain ⟨h1,h2⟩:=h x hx
 exact ⟨x4s h1,by show (Lib.toLowerA x.Name).length≤_; unfold Lib.toLowerA; rw [List.length_map]; exact h2⟩
theorem y54 {s:Bs} (h:ascB s=true∧s.length≤100000):jw s=some (lo s):=by
 unfold jw
 rw [if_pos ⟨by omega,h.1⟩]
theorem lowP {ρ:Type} (E:List zt→Option (zw×Int)):∀ (l pre:List zt),(∀ x,x∈l→nmOK x)→rng (fun (k:Nat) (s:(List zt))=>z02 k s) E l.length pre.length (pre++l)=E (pre++l.map lwH)
 | [],pre,_=>rfl
 | x::l,pre,h=>by
  have e1:(pre++x::l)[pre.length]?=some x:=by simp
  have e2:(pre++x::l).set pre.length (zt.mk (lo x.Name) x.Value)=(pre++[lwH x])++l:=by simp [lwH]
  have e3:pre.length+1=(pre++[lwH x]).length:=by simp
  have e4:z02 pre.length (pre++x::l)=some (.inl ((pre++[lwH x])++l)):=by
   unfold z02
   rw [e1]
   simp only [Option.bind_some]
   rw [y54 (h x (by simp))]
   simp only [Option.bind_some]
   rw [e2]
  show (z02 pre.length (pre++x::l)).bind _=_
  rw [e4]
  simp only [Option.bind_some,after]
  rw [e3,lowP (ρ:=ρ) E l (pre++[lwH x]) fun y hy=>h y (List.mem_cons_of_mem _ hy)]
  simp
theorem lowR (E:List zt→Option (zw×Int)):∀ (l:List zt) (k:Nat) (q:List zt),(∀ x,x∈l→nmOK x)→q.length+l.length≤1000000→forL (fun (k:Nat) (x:zt) (s:(List zt))=>z13 k x s) E k l q=E (q++l.map lwH)
 | [],k,q,_,_=>by simp [forL]
 | x::l,k,q,h,hq=>by
  simp only [List.length_cons] at hq
  have e4:z13 k x q=some (.inl (q++[lwH x])):=by
   unfold z13
   rw [y54 (h x (by simp))]
   simp only [Option.bind_some]
   rw [if_pos (by omega)]; rfl
  show (z13 k x q).bind _=_
  rw [e4]
  simp only [Option.bind_some,after]
  rw [lowR E l (k+1) _ (fun y hy=>h y (List.mem_cons_of_mem _ hy)) (by simp; omega)]
  simp
theorem x8y (r:zw) (h:rqP r) (e1:kq r=some 0):tokB r.Method=true:=by
 obtain ⟨p1,p2,p3,p4,p5,p6⟩:=h
 obtain ⟨b,q,c1,c2,c3⟩:=y6x p2
 unfold kq Zo at e1
 rw [z48,z47 _ (by omega)] at e1
 simp only [Option.bind_some] at e1
 cases hm:momP r.At
 ·rw [hm] at e1; simp at e1
 ·cases ht:tokB r.Method
  ·rw [hm,ht] at e1; simp at e1
  ·rfl
theorem x91 (r:zw) (hr:rqP r) (hq:qOK r.Query):∃ x,xk r=some x∧Zu r=some x∧hnP x.1.Headers:=by
 obtain ⟨e,e1,e2,e3⟩:=y48 r hr
 obtain ⟨p1,p2,p3,p4,p5,p6⟩:=id hr
 unfold xk Zu
 rw [e1,e2]
 simp only [Option.bind_some]
 by_cases h0:e=0
 ·subst h0
  obtain ⟨h1,h2,hH⟩:=e3 rfl
  obtain ⟨hvp,hasc⟩:=w3e h1
  have hl:=hvp.1
  have htok:=x8y r hr e1
  obtain ⟨g,g1,g2⟩:=w27 p2
  obtain ⟨b1,b2⟩:=x9m r.Path (by omega)
  obtain ⟨c,c1,c2,c3,c4⟩:=x88 r.Query (by omega)
  rw [g1,g2,b1,b2,c1,c2]
  simp only [Option.bind_some,ne_eq,not_true_eq_false,decide_false,Bool.false_eq_true,if_false]
  by_cases k1:(npF r.Path).2=0
  ·have j1:(decide ¬(npF r.Path).2=0)=false:=by simpa using k1
   simp only [j1,Bool.false_eq_true,if_false]
   by_cases k2:c.2=0
   ·obtain ⟨c5,c6,c7⟩:=c4 k2
    have j2:(decide ¬c.2=0)=false:=by simpa using k2
    simp only [j2,Bool.false_eq_true,if_false]
    have hmem:=x9e c7
    rw [← c5] at hmem
    have hfew:c.1.length≤12:=by rw [c5]; exact x9f hq (by rw [← c5]; exact c6)
    obtain ⟨d1,d2⟩:=w37 c.1 (by omega) hmem
    rw [d1,d2]
    simp only [Option.bind_some]
    obtain ⟨s,s1,s2,s3⟩:=x7y (c.1.filter fun p => !nilP p) (by have:=List.length_filter_le (fun p => !nilP p) c.1; omega)
    rw [s2,s3]
    simp only [Option.bind_some]
    rw [if_pos s1.length_eq,if_pos s1.length_eq]
    have hsl:s.length≤12:=by rw [s1.length_eq]; have:=List.length_filter_le (fun p => !nilP p) c.1; omega
    have hsm:∀ p,p∈s→p.Name.length≤1000∧p.Value.length≤1000:=fun p hp=>hmem p (List.mem_filter.1 (s1.mem_iff.1 hp)).1
    obtain ⟨t,t1,t2⟩:=x6j s (by omega) hsm
    rw [t1,t2]
    simp only [Option.bind_some]
    by_cases k3:t.2=0
    ·have j3:(decide ¬t.2=0)=false:=by simpa using k3
     simp only [j3,Bool.false_eq_true,if_false]
     have hup:z3x r.Method=some (Lib.toUpperA r.Method):=by
      unfold z3x
      rw [if_pos ⟨by omega,z64 htok⟩]
     have hcl:ui r.Headers=some r.Headers:=by unfold ui; rw [if_pos (by omega)]
     rw [hup,hcl]
     simp only [Option.bind_some]
     have hP:=lowP (ρ:=Unit) (fun (s:(List zt))=>y1s r g (npF r.Path) t (Lib.toUpperA r.Method) s) r.Headers [] (y6v hvp)
     have hR:=lowR (fun (s:(List zt))=>y28 r g (npF r.Path) t (Lib.toUpperA r.Method) s) r.Headers 0 [] (y6v hvp) (by simp only [List.length_nil]; omega)
     rw [if_pos (by omega),if_pos (by omega),hR]
     refine ⟨_,hP,rfl,?_⟩
     exact w3a (by omega) (y6v hvp)
    ·have j3:(decide ¬t.2=0)=true:=by simpa using k3
     simp only [j3,if_true]
     exact ⟨_,rfl,rfl,y2w⟩
   ·have j2:(decide ¬c.2=0)=true:=by simpa using k2
    simp only [j2,if_true]
    exact ⟨_,rfl,rfl,y2w⟩
  ·have j1:(decide ¬(npF r.Path).2=0)=true:=by simpa using k1
   simp only [j1,if_true]
   exact ⟨_,rfl,rfl,y2w⟩
 ·rw [if_pos (by simpa using h0),if_pos (by simpa using h0)]
  exact ⟨_,rfl,rfl,y2w⟩
def flN:List Bs:=[[110,111,45,115,116,111,114,101],[110,111,45,99,97,99,104,101],[112,114,105,118,97,116,101],[112,117,98,108,105,99],[109,117,115,116,45,114,101,118,97,108,105,100,97,116,101],[111,110,108,121,45,105,102,45,99,97,99,104,101,100]]
def cnN:List Bs:=[[109,97,120,45,97,103,101],[115,45,109,97,120,97,103,101],[115,116,97,108,101,45,119,104,105,108,101,45,114,101,118,97,108,105,100,97,116,101],[115,116,97,108,101,45,105,102,45,101,114,114,111,114],[109,97,120,45,115,116,97,108,101],[109,105,110,45,102,114,101,115,104]]
theorem x2z {ns:List Bs} {nm:Bs} (h:0≤idxB ns nm):∃ j:Nat,idxB ns nm=(j:Int)∧j < ns.length∧nm∈ns:=by
 obtain ⟨_,x,h2,h3⟩:=(z6f (fun x=>decide (nm=x)) ns 0).2 h
 refine ⟨(idxB ns nm).toNat,by omega,?_,?_⟩
 ·have:=(List.getElem?_eq_some_iff.1 h2).1
  exact this
 ·have e:nm=x:=by simpa using h3
  rw [e]; exact List.mem_of_getElem? h2
theorem w3t:∀ j:Nat,j < 6→at? ([0,1,2,3,4,5]:List Int) (j:Int)=some (j:Int)∧y3n (j:Int)=true:=by decide +kernel
theorem w4m:∀ j:Nat,j < 6→at? ([6,7,8,9,10,11]:List Int) (j:Int)=some (6+(j:Int))∧Qi (6+(j:Int))=true:=by decide +kernel
def nOf (v:Bs):Int:=if okN 9 v then valB v else 0
def sOK (v:Bs):Bool:=okN 9 v && !outP (valB v) 0 100000000
theorem x0b (v:Bs) (h:v.length≤1000000):z4u v=some (nOf v,sOK v):=by
 have hk:z4f v 9=some (if okN 9 v then valB v else 0,okN 9 v):=w0t v 9 (by omega) h
 unfold z4u z8b z6m nOf sOK
 rw [hk]
 simp only [Option.bind_some]
 cases okN 9 v
 ·rfl
 ·simp only [if_true,y1j,Option.bind_some,Bool.true_and]
def numC (c:qh) (i n:Int):qh:=if Wx c (6+i)=-1∨n < Wx c (6+i) then y00 c (6+i) n else c
def xu (c:qh) (x:Bs):Bool×qh:=
 let r:=Lib.cut x [61]
 if !tokB r.1 || (r.2.2 && !sOK r.2.1) then (false,c)
 else if 0≤idxB flN (lo r.1) then (!r.2.2,y4n c (idxB flN (lo r.1)) true)
 else if idxB cnN (lo r.1) < 0 then (true,c)
 else (r.2.2,numC c (idxB cnN (lo r.1)) (nOf r.2.1))
theorem x6g (c:qh) (x:Bs) (h:x.length≤1000000):z4t c x=some (xu c x):=by
 obtain ⟨c1,c2,c3,c4⟩:=w4d x 61
 unfold z4t xu uh
 rw [if_pos (by omega)]
 simp only [Option.bind_some]
 generalize Lib.cut x [61]=r at *
 rw [x0b _ (by omega),z47 _ (by omega)]
 simp only [Option.bind_some]
 cases ht:tokB r.1
 ·rfl
 simp only [Bool.not_true,Bool.false_or]
 cases hs:(r.2.2 && !sOK r.2.1)
 ·simp only [Bool.false_eq_true,if_false]
  have hlow:jw r.1=some (lo r.1):=by
   unfold jw
   rw [if_pos ⟨by omega,z64 ht⟩]
  have hf:y18=some (flN,[0,1,2,3,4,5]):=rfl
  have hc:z8s=some (cnN,[6,7,8,9,10,11]):=rfl
  rw [hlow,hf,hc]
  simp only [Option.bind_some]
  rw [y6s flN (lo r.1) (by decide),y6s cnN (lo r.1) (by decide)]
  simp only [Option.bind_some]
  by_cases h0:0≤idxB flN (lo r.1)
  ·obtain ⟨j,j1,j2,_⟩:=x2z h0
   obtain ⟨a1,a2⟩:=w3t j j2
   rw [if_pos (by simpa using h0),if_pos h0,j1,a1]
   simp only [Option.bind_some]
   rw [if_pos a2]
  ·rw [if_neg (by simpa using h0),if_neg h0]
   by_cases h1:idxB cnN (lo r.1) < 0
   ·rw [if_pos (by simpa using h1),if_pos h1]
   ·rw [if_neg (by simpa using h1),if_neg h1]
    obtain ⟨j,j1,j2,_⟩:=x2z (show 0≤idxB cnN (lo r.1) by omega)
    obtain ⟨a1,a2⟩:=w4m j j2
    unfold z6k z6l numC
    rw [j1,a1]
    simp only [Option.bind_some,a2,if_true]
    by_cases hg:Wx c (6+(j:Int))=-1
    ·rw [if_pos (by simpa using hg),if_pos (Or.inl hg)]
    ·rw [if_neg (by simpa using hg)]
     by_cases hn:nOf r.2.1 < Wx c (6+(j:Int))
     ·rw [if_pos (by simpa using hn),if_pos (Or.inr hn)]
     ·rw [if_neg (by simpa using hn),if_neg (by simp [hg,hn])]
 ·simp
abbrev Tst:=Bool×Bool×Int×Int×Bool×Bool×Bool×Bool×Int×Int×Int×Int
def tc (s:Tst):qh:=qh.mk s.1 s.2.1 s.2.2.2.2.1 s.2.2.2.2.2.1 s.2.2.2.2.2.2.1 s.2.2.2.2.2.2.2.1 s.2.2.2.2.2.2.2.2.1 s.2.2.2.2.2.2.2.2.2.1 s.2.2.2.2.2.2.2.2.2.2.1 s.2.2.2.2.2.2.2.2.2.2.2 s.2.2.1 s.2.2.2.1
def ct (c:qh):Tst:=(c.NoStore,c.NoCache,c.MaxStale,c.MinFresh,c.Private,c.Public,c.Must,c.Only,c.MaxAge,c.Shared,c.Stale,c.OnError)
abbrev zzT:qh×Int:=(qh.mk false false false false false false 0 0 0 0 0 0,9)
def stT (c:qh) (x:Bs):Tst ⊕ (qh×Int):=if (xu c x).1 then .inl (ct (xu c x).2) else .inr zzT
theorem x9t (k:Nat) (x:Bs) (c:qh) (h:x.length≤1000000):z2t k x c.NoStore c.NoCache c.MaxStale c.MinFresh c.Private c.Public c.Must c.Only c.MaxAge c.Shared c.Stale c.OnError=some (stT c x):=by
 unfold z2t stT
 show (z4t c x).bind _=_
 rw [x6g c x h]
 simp only [Option.bind_some]
 cases (xu c x).1 <;> rfl
abbrev ccL:Bs:=[99,97,99,104,101,45,99,111,110,116,114,111,108]
abbrev c0:Tst:=(false,false,-1,-1,false,false,false,false,-1,-1,-1,-1)
theorem x9s (l:List zt):z4v l=z9t l false false (-1) (-1) false false false false (-1) (-1) (-1) (-1):=rfl
theorem y8d {l:List zt} (h0:hdsE l=0) (n:Bs):vlP (qx n l):=by
 have hcnt:=y2x h0
 have hok:=x29 h0
 refine ⟨?_,fun v hv => ?_⟩
 ·unfold qx
  rw [List.length_map]
  have:=(List.filter_sublist (p:=nmB n) (l:=l)).length_le
  omega
 ·unfold qx at hv
  obtain ⟨x,hx,rfl⟩:=List.mem_map.1 hv
  exact x3s (hok x (List.mem_filter.1 hx).1).2
theorem x9d (V:List Bs) (h:vlP V):(ptsB V).length≤3000000:=by
 have h1:=x0p V h.2
 have h2:=y0r (V.map (spl 44)).flatten
 have h3:V.length * 2001≤1000 * 2001:=Nat.mul_le_mul h.1 (by omega)
 unfold ptsB
 omega
theorem w0w:z8q=some true:=by
 have hcr:Zs (yu.mk 200 [zt.mk ccL [109,97,120,45,97,103,101,61,50]] [])=some 0:=by
  have h1:=(z9l [zt.mk ccL [109,97,120,45,97,103,101,61,50]] ⟨by simp,fun h hh=>by rw [List.mem_singleton.1 hh]; exact ⟨by decide,by decide⟩⟩).1
  have h2:hdsE [zt.mk ccL [109,97,120,45,97,103,101,61,50]]=0:=by decide +kernel
  rw [h2] at h1
  unfold Zs
  rw [y1j]
  simp only [Option.bind_some]
  rw [h1]
  rfl
 have hnm:∀ x,x∈[zt.mk ccL [109,97,120,45,97,103,101,61,50]]→nmOK x:=fun x hx=>by rw [List.mem_singleton.1 hx]; exact ⟨by decide +kernel,by decide⟩
 have hv:=(z25 [zt.mk ccL [109,97,120,45,97,103,101,61,50]] ccL (by simp) hnm ⟨rfl,by decide⟩).1
 have hv2:=(z25 [zt.mk ccL [109,97,120,45,97,103,101,61,50]] [118,97,114,121] (by simp) hnm ⟨rfl,by decide⟩).1
 have e1:qx ccL [zt.mk ccL [109,97,120,45,97,103,101,61,50]]=[[109,97,120,45,97,103,101,61,50]]:=by decide +kernel
 have e2:qx [118,97,114,121] [zt.mk ccL [109,97,120,45,97,103,101,61,50]]=[]:=by decide +kernel
 rw [e1] at hv
 rw [e2] at hv2
 have p1:=y5e [[109,97,120,45,97,103,101,61,50]] ⟨by simp,by simp⟩
 have p2:=y5e [] ⟨by simp,by simp⟩
 have e3:ptsB [[109,97,120,45,97,103,101,61,50]]=[[109,97,120,45,97,103,101,61,50]]:=by decide +kernel
 rw [e3] at p1
 have hpar:z4v [zt.mk ccL [109,97,120,45,97,103,101,61,50]]=some ((xu (tc c0) [109,97,120,45,97,103,101,61,50]).2,0):=by
  rw [x9s]
  unfold z9t
  show (ux _ ccL).bind _=_
  rw [hv]
  simp only [Option.bind_some]
  rw [p1]
  simp only [Option.bind_some]
  rw [if_pos (by simp)]
  have a:=x9t 0 [109,97,120,45,97,103,101,61,50] (tc c0) (by simp)
  show (z2t 0 [109,97,120,45,97,103,101,61,50] false false (-1) (-1) false false false false (-1) (-1) (-1) (-1)).bind _=_
  have a':z2t 0 [109,97,120,45,97,103,101,61,50] false false (-1) (-1) false false false false (-1) (-1) (-1) (-1)=some (stT (tc c0) [109,97,120,45,97,103,101,61,50]):=a
  rw [a']
  have e4:(xu (tc c0) [109,97,120,45,97,103,101,61,50]).1=true:=by decide +kernel
  unfold stT
  rw [e4]
  rfl
 have hvy:Zx (yu.mk 200 [zt.mk ccL [109,97,120,45,97,103,101,61,50]] [])=some ([],false,0):=by
  unfold Zx
  show (ux [zt.mk ccL [109,97,120,45,97,103,101,61,50]] [118,97,114,121]).bind _=_
  rw [hv2]
  simp only [Option.bind_some]
  rw [p2]
  have e0:ptsB []=[]:=rfl
  rw [e0]
  simp only [Option.bind_some]
  rw [if_pos (by simp)]
  show z0c []=_
  have hi:z07 [] [42]=some (-1):=rfl
  have hs:Zp []=some []:=by
   unfold Zp
   rw [if_pos (by simp)]
   simp
  unfold z0c z7z z4d ui
  rw [hi]
  simp only [Option.bind_some]
  rw [if_neg (by simp),if_pos (by simp)]
  simp only [Option.bind_some]
  rw [hs]
  rfl
 have f1:(xu (tc c0) [109,97,120,45,97,103,101,61,50]).2.NoCache=false:=by decide +kernel
 have f2:(xu (tc c0) [109,97,120,45,97,103,101,61,50]).2.Shared=-1:=by decide +kernel
 have f3:(xu (tc c0) [109,97,120,45,97,103,101,61,50]).2.MaxAge=2:=by decide +kernel
 have hlt:z8u (xu (tc c0) [109,97,120,45,97,103,101,61,50]).2=some 2000:=by
  unfold z8u
  rw [f1,f2,f3]
  rfl
 unfold z8q y19
 rw [hcr]
 simp only [Option.bind_some]
 rw [if_neg (by simp)]
 show ((z4v [zt.mk ccL [109,97,120,45,97,103,101,61,50]]).bind _).bind _=_
 rw [hpar]
 simp only [Option.bind_some]
 rw [if_neg (by simp)]
 rw [hvy]
 simp only [Option.bind_some]
 rw [if_neg (by simp),hlt]
 rfl
theorem z91 {k:Int} {s:zr} (h:SB k s) (hk:k≤1000000) (m:Nat) (hm:m≤100) (sep:Bs) (hsep:sep.length≤10) (l:List Bs) (hl:l≠[]∧l.length≤1000) (hB:∀ x,x∈l→x.length≤100) :
  Ok (kt s (m:Int) sep l) fun r=>r.1.length≤30000∧SB (k+m) r.2:=by
 unfold kt
 refine ok_g (by omega) ?_
 rw [Int.toNat_natCast]
 refine z7j (fun j (q:List Int×Int×List Bs)=>j≤m∧SB (k+(j:Int)) (zr.mk q.1 q.2.1)∧q.2.2.length≤j∧∀ x,x∈q.2.2→x.length≤100) m 0 _ ⟨by omega,h.mono (by omega),by simp,by simp⟩ ?_ ?_
 ·rintro j ⟨c5,c6,l7⟩ _ hj ⟨h0,h1,h2,h3⟩
  simp only at h1 h2 h3 ⊢
  unfold z57
  refine yf (xx h1 (by omega) l hl) fun r hr=>ok_g (by omega) (qg ?_)
  refine ⟨by omega,hr.2.mono (by omega),by simp; omega,fun x hx => ?_⟩
  rcases List.mem_append.1 hx with h | h
  ·exact h3 x h
  ·have:x=r.1:=by simpa using h
   rw [this]; exact hB _ hr.1
 ·rintro ⟨c5,c6,l7⟩ ⟨h0,h1,h2,h3⟩
  simp only at h1 h2 h3 ⊢
  have hj:=z45 100 sep l7 h3
  have hmm:l7.length * (100+sep.length)≤100 * 110:=Nat.mul_le_mul (by omega) (by omega)
  unfold z58
  have hJ:jl l7 sep=some (Lib.join l7 sep):=by
   unfold jl
   rw [if_pos ⟨by omega,by omega⟩]
  rw [hJ]
  exact qg ⟨by simp only; omega,h1.mono (by omega)⟩
theorem w4e {k:Int} {s:zr} (h:SB k s) (hk:k≤100000):Ok (z8l s) fun r=>r.1.length≤30000∧SB (k+20) r.2:=by
 have hJ:∀ (t:Bs) (c:List Int) (a:Int),t.length≤30000→SB (k+15) (zr.mk c a)→Ok (z19 t c a) fun r=>r.1.length≤30000∧SB (k+20) r.2:=by
  intro t c a ht hs
  unfold z19 z6b
  refine yf (ji hs (by omega) 20 (by omega)) fun r hr=>wh (fun _ => ?_) (fun _=>qg ⟨ht,hr.mono (by omega)⟩)
  exact yf (xh hr (by omega) 100 _ ⟨by simp,by simp⟩ (by decide)) fun r2 h2=>qg ⟨by have:=h2.1; simp only; omega,h2.2.mono (by omega)⟩
 unfold z8l
 refine yf (z0q h (by omega) 0 3 (by omega)) fun r hr => ?_
 obtain ⟨m,hm⟩:∃ m:Nat,r.1=(m:Int):=⟨r.1.toNat,by omega⟩
 rw [hm]
 refine yf (z91 hr.2 (by omega) m (by omega) [44,32] (by simp) _ ⟨by simp,by simp⟩ (by decide)) fun r2 h2=>yf (ji h2.2 (by omega) 10 (by omega)) fun r3 h3=>wh (fun _ => ?_) (fun _=>hJ _ _ _ h2.1 (h3.mono (by omega)))
 exact yf (z91 h3 (by omega) 2 (by omega) [44] (by simp) _ ⟨by simp,by simp⟩ (by decide)) fun r4 h4=>hJ _ _ _ h4.1 (h4.2.mono (by omega))
theorem w44 {k:Int} {s:zr} (h:SB k s) (hk:k≤100000):Ok (z8o s) fun r=>r.1.length≤30000∧SB (k+20) r.2:=by
 unfold z8o z6c
 refine yf (z0q h (by omega) 1 2 (by omega)) fun r hr => ?_
 obtain ⟨m,hm⟩:∃ m:Nat,r.1=(m:Int):=⟨r.1.toNat,by omega⟩
 rw [hm]
 refine yf (z91 hr.2 (by omega) m (by omega) [44,32] (by simp) _ ⟨by simp,by simp⟩ (by decide)) fun r2 h2=>yf (ji h2.2 (by omega) 20 (by omega)) fun r3 h3=>wh (fun _ => ?_) (fun _=>qg ⟨h2.1,h3.mono (by omega)⟩)
 exact yf (xh h3 (by omega) 100 _ ⟨by simp,by simp⟩ (by decide)) fun r4 h4=>qg ⟨by have:=h4.1; simp only; omega,h4.2.mono (by omega)⟩
def haP (n:Nat) (l:List zt):Prop:=l.length≤n∧∀ y,y∈l→hdA y
theorem y2y (n:Nat):haP n ([]:List zt):=⟨by simp,by simp⟩
theorem jh {n m:Nat} {l:List zt} (h:haP n l) (hm:n≤m):haP m l:=⟨by have:=h.1; omega,h.2⟩
theorem z9m {n:Nat} {l:List zt} (h:haP n l) (a b:Bs) (h1:ascB a=true∧a.length≤3000) (h2:b.length≤30000):haP (n+1) (l++[zt.mk a b]):=
 ⟨by have:=h.1; simp; omega,w3c h.2 (w3d h1 h2)⟩
theorem x3a {n:Nat} {l:List zt} (h:haP n l) (hn:n≤1000):hdsP l:=⟨by have:=h.1; omega,fun y hy=>(h.2 y hy).1⟩
def rqA (r:zw):Prop:=rqP r∧haP 100 r.Headers
theorem z6u {n:Nat} (name value:Bs) (c:yu) (h:haP n c.Headers) (hn:n≤100) (h1:ascB name=true∧name.length≤3000) (h2:value.length≤30000):Ok (Zw name value c) fun r=>haP (n+1) r.Headers:=by
 unfold Zw
 exact ok_g (by have:=h.1; omega) (qg (z9m h name value h1 h2))
theorem w4r {k:Int} {s:zr} (h:SB k s) (hk:k≤5000):Ok (z8n s) fun r=>haP 100 r.1.Headers∧SB (k+200) r.2:=by
 have hJ7:∀ (l:List zt) (b:Bs) (c:List Int) (a n:Int),haP 100 l→SB (k+200) (zr.mk c a)→Ok (z2a l b c a n) fun r=>haP 100 r.1.Headers∧SB (k+200) r.2:=by
  intro l b c a n hl hs
  unfold z2a
  exact qg ⟨hl,hs⟩
 have hJ6:∀ (c:List Int) (a:Int) (l:List zt) (n:Int) (b:Bs),haP 50 l→SB (k+180) (zr.mk c a)→Ok (z2b c a l n b) fun r=>haP 100 r.1.Headers∧SB (k+200) r.2:=by
  intro c a l n b hl hs
  unfold z2b
  refine yf (ji hs (by omega) 40 (by omega)) fun r hr=>wh (fun _ => ?_) (fun _=>hJ7 _ _ _ _ _ (jh hl (by omega)) (hr.mono (by omega)))
  exact yf (y5m hr (by omega) 100 599 (by omega)) fun r2 h2=>hJ7 _ _ _ _ _ (jh hl (by omega)) (h2.2.mono (by omega))
 have hJ5:∀ (c:List Int) (a:Int) (l:List zt) (n:Int) (b:Bs),haP 20 l→SB (k+100) (zr.mk c a)→Ok (z2c c a l n b) fun r=>haP 100 r.1.Headers∧SB (k+200) r.2:=by
  intro c a l n b hl hs
  unfold z2c
  refine yf (ji hs (by omega) 30 (by omega)) fun r hr=>wh (fun _ => ?_) (fun _=>hJ6 _ _ _ _ _ (jh hl (by omega)) (hr.mono (by omega)))
  refine yf (y01 hr (by omega) 3000 _ ⟨by simp,by simp⟩ (by decide +kernel)) fun r75 h75=>yf (z91 h75.2 (by omega) 12 (by omega) [44] (by simp) _ ⟨by simp,by simp⟩ (by decide)) fun r77 h77=>yf (xh h77.2 (by omega) 30000 _ ⟨by simp,by simp⟩ (by simp [h77.1])) fun r79 h79 => ?_
  exact yf (z6u r75.1 r79.1 (yu.mk n l b) hl (by omega) h75.1 h79.1) fun r81 h81=>hJ6 _ _ _ _ _ (jh h81 (by omega)) (h79.2.mono (by omega))
 have hJ4:∀ (c:List Int) (a:Int) (l:List zt) (n:Int) (b:Bs),haP 18 l→SB (k+90) (zr.mk c a)→Ok (z2d c a l n b) fun r=>haP 100 r.1.Headers∧SB (k+200) r.2:=by
  intro c a l n b hl hs
  unfold z2d
  refine yf (ji hs (by omega) 6 (by omega)) fun r hr=>wh (fun _ => ?_) (fun _=>hJ5 _ _ _ _ _ (jh hl (by omega)) (hr.mono (by omega)))
  exact yf (xh hr (by omega) 100 _ ⟨by simp,by simp⟩ (by decide)) fun r63 h63=>yf (z6u _ r63.1 (yu.mk n l b) hl (by omega) ⟨rfl,by simp⟩ (by have:=h63.1; omega)) fun r65 h65=>hJ5 _ _ _ _ _ (jh h65 (by omega)) (h63.2.mono (by omega))
 have hJ3:∀ (c:List Int) (a:Int) (l:List zt) (n:Int) (b:Bs),haP 16 l→SB (k+80) (zr.mk c a)→Ok (z2e c a l n b) fun r=>haP 100 r.1.Headers∧SB (k+200) r.2:=by
  intro c a l n b hl hs
  unfold z2e
  refine yf (ji hs (by omega) 4 (by omega)) fun r hr=>wh (fun _ => ?_) (fun _=>hJ4 _ _ _ _ _ (jh hl (by omega)) (hr.mono (by omega)))
  exact yf (xh hr (by omega) 100 _ ⟨by simp,by simp⟩ (by decide)) fun r51 h51=>yf (z6u _ r51.1 (yu.mk n l b) hl (by omega) ⟨rfl,by simp⟩ (by have:=h51.1; omega)) fun r53 h53=>hJ4 _ _ _ _ _ (jh h53 (by omega)) (h51.2.mono (by omega))
 have hJ2:∀ (c:List Int) (a:Int) (l:List zt) (n:Int) (b:Bs),haP 14 l→SB (k+60) (zr.mk c a)→Ok (z2f c a l n b) fun r=>haP 100 r.1.Headers∧SB (k+200) r.2:=by
  intro c a l n b hl hs
  unfold z2f
  refine yf (ji hs (by omega) 2 (by omega)) fun r hr=>wh (fun _ => ?_) (fun _=>hJ3 _ _ _ _ _ (jh hl (by omega)) (hr.mono (by omega)))
  exact yf (y01 hr (by omega) 3000 _ ⟨by simp,by simp⟩ (by decide +kernel)) fun r37 h37=>yf (xh h37.2 (by omega) 100 _ ⟨by simp,by simp⟩ (by decide)) fun r39 h39=>yf (z6u r37.1 r39.1 (yu.mk n l b) hl (by omega) h37.1 (by have:=h39.1; omega)) fun r41 h41=>hJ3 _ _ _ _ _ (jh h41 (by omega)) (h39.2.mono (by omega))
 have hJ1:∀ (c:List Int) (a:Int) (l:List zt) (n:Int) (b:Bs),haP 12 l→SB (k+50) (zr.mk c a)→Ok (z2g c a l n b) fun r=>haP 100 r.1.Headers∧SB (k+200) r.2:=by
  intro c a l n b hl hs
  unfold z2g
  refine yf (ji hs (by omega) 3 (by omega)) fun r hr=>wh (fun _ => ?_) (fun _=>hJ2 _ _ _ _ _ (jh hl (by omega)) (hr.mono (by omega)))
  exact yf (xh hr (by omega) 100 _ ⟨by simp,by simp⟩ (by decide)) fun r25 h25=>yf (z6u _ r25.1 (yu.mk n l b) hl (by omega) ⟨rfl,by simp⟩ (by have:=h25.1; omega)) fun r27 h27=>hJ2 _ _ _ _ _ (jh h27 (by omega)) (h25.2.mono (by omega))
 unfold z8n
 refine yf (z7h h (by omega) _ ⟨by simp,by simp⟩) fun r2 h2=>yf (y49 _ _ ⟨by omega,by omega,by simp⟩) fun r4 h4=>yf (xx h2.2 (by omega) _ ⟨by simp,by simp⟩) fun r6 h6=>yf (ji h6.2 (by omega) 6 (by omega)) fun r8 h8=>wh (fun _ => ?_) (fun _=>hJ1 _ _ _ _ _ (y2y 12) (h8.mono (by omega)))
 exact yf (y01 h8 (by omega) 3000 _ ⟨by simp,by simp⟩ (by decide +kernel)) fun r11 h11=>yf (w4e h11.2 (by omega)) fun r13 h13=>yf (z6u r11.1 r13.1 (yu.mk r2.1 [] r6.1) (y2y 0) (by omega) h11.1 h13.1) fun r15 h15=>hJ1 _ _ _ _ _ (jh h15 (by omega)) (h13.2.mono (by omega))
theorem y3e {α:Type} {body:Nat→α→Unit→Option (Unit ⊕ Int)} {fin:Unit→Option Int} {e:Nat→α→Int}:∀ (l:List α) (k:Nat),(∀ j x,k≤j→l[j - k]?=some x→body j x ()=if e j x≠0 then some (.inr (e j x)) else some (.inl ()))→forL body fin k l ()=if feI e k l≠0 then some (feI e k l) else fin ()
 | [],k,h=>by simp [forL,feI]
 | x::l,k,h=>by
  have h1:=h k x (Nat.le_refl _) (by simp)
  show (body k x ()).bind _=_
  rw [h1]
  by_cases hp:e k x≠0
  ·simp [feI,hp,after]
  ·simp only [feI,hp,if_false,Option.bind_some,after]
   refine y3e l (k+1) fun j y hj hy=>h j y (by omega) ?_
   obtain ⟨m,hm⟩:∃ m,j - k=m+1:=⟨j - k - 1,by omega⟩
   rw [hm,List.getElem?_cons_succ]
   have:j - (k+1)=m:=by omega
   rw [this] at hy; exact hy
theorem x4y {α:Type} {p:Nat→α→Bool}:∀ (l:List α) (k:Nat),allI p k l=true↔∀ j x,l[j]?=some x→p (k+j) x=true
 | [],k=>by simp [allI]
 | x::l,k=>by
  simp only [allI,Bool.and_eq_true,x4y l (k+1)]
  constructor
  ·rintro ⟨h1,h2⟩ j y hj
   cases j with
   | zero=>simp at hj; subst hj; exact h1
   | succ j=>have:=h2 j y (by simpa using hj); rwa [show k+1+j=k+(j+1) by omega] at this
  ·intro h
   refine ⟨h 0 x rfl,fun j y hj => ?_⟩
   have:=h (j+1) y (by simpa using hj)
   rwa [show k+(j+1)=k+1+j by omega] at this
theorem eqY (a b:List Bs) (h:a.length≤1000000000):z33 a b=some (decide (a=b)):=by
 unfold z33
 by_cases hl:a.length=b.length
 ·rw [if_neg (by simp [hl]),if_pos h,z2r (p:=fun k x=>decide (b[k]?=some x)) (e:=true) (r0:=false) rfl a 0 fun j x _ hx => ?_]
  ·have:allI (fun k x=>decide (b[k]?=some x)) 0 a=decide (a=b):=by
    rw [Bool.eq_iff_iff,x4y]
    simp only [Nat.zero_add,decide_eq_true_eq]
    constructor
    ·intro h
     apply List.ext_getElem?
     intro j
     cases hj:a[j]? with
     | some x=>rw [h j x hj]
     | none=>rw [List.getElem?_eq_none_iff] at hj; rw [eq_comm,List.getElem?_eq_none_iff]; omega
    ·rintro rfl j x hj; exact hj
   rw [this]
   cases decide (a=b) <;> rfl
  ·have hx:a[j]?=some x:=by simpa using hx
   have hj:=Ws hx
   obtain ⟨y,hy⟩:∃ y,b[j]?=some y:=⟨_,List.getElem?_eq_getElem (by omega)⟩
   unfold y07
   rw [hy]
   simp only [Option.bind_some]
   by_cases hxy:x=y
   ·simp [hxy]
   ·have:¬ y=x:=fun e=>hxy e.symm
    simp [hxy,this]
 ·have:¬ a=b:=fun e=>hl (by rw [e])
  rw [if_pos (by simp; omega)]
  simp [this]
def vyN:Bs:=[118,97,114,121]
def vyL (P:List Bs):List Bs×Bool×Int:=if P.all tokB then (if P.any (fun x=>decide (x=[42])) then ([],true,0) else if 10 < ((setB (P.map lo)).length:Int) then ([],false,2) else (setB (P.map lo),false,0)) else ([],false,9)
theorem x1a {x:Bs} (h:tokB x=true):jw x=some (lo x):=y54 ⟨z64 h,by have:=y4c h; omega⟩
theorem x99 (x:Bs):decide (([42]:Bs)=lo x)=decide (x=[42]):=by
 rw [decide_eq_decide]
 constructor
 ·intro h
  unfold lo Lib.toLowerA at h
  cases x with
  | nil=>simp at h
  | cons c t =>
   simp only [List.map_cons,List.cons.injEq] at h
   obtain ⟨h1,h2⟩:=h
   have:=je (fun c => !(Lib.lowerB c == 42) || c == 42) (by decide +kernel) c
   rw [← h1] at this
   have h3:c=42:=by simpa using this
   have h4:t=[]:=by simpa using h2.symm
   rw [h3,h4]
 ·rintro rfl; decide +kernel
theorem vyP:∀ (l pre:List Bs),(∀ x,x∈l→x.length≤2000)→rng (fun (k:Nat) (s:(List Bs))=>z2s k s) (fun (s:(List Bs))=>z0c s) l.length pre.length (pre++l)=if l.all tokB then z0c (pre++l.map lo) else some ([],false,9)
 | [],pre,_=>by simp [rng]
 | x::l,pre,h=>by
  have e1:(pre++x::l)[pre.length]?=some x:=by simp
  have e3:pre.length+1=(pre++[lo x]).length:=by simp
  have hst:z2s pre.length (pre++x::l)=if tokB x then some (.inl ((pre++[lo x])++l)) else some (.inr ([],false,9)):=by
   have e2:(pre++x::l).set pre.length (lo x)=(pre++[lo x])++l:=by simp
   unfold z2s
   rw [e1]
   simp only [Option.bind_some]
   rw [z47 x (by have:=h x (by simp); omega)]
   simp only [Option.bind_some]
   cases ht:tokB x
   ·rfl
   ·rw [if_neg (by simp),x1a ht]
    simp only [Option.bind_some]
    rw [e2]; rfl
  show (z2s pre.length (pre++x::l)).bind _=_
  rw [hst]
  cases ht:tokB x
  ·simp [ht,after]
  ·simp only [if_true,Option.bind_some,after]
   rw [e3,vyP l (pre++[lo x]) fun y hy=>h y (List.mem_cons_of_mem _ hy)]
   simp [ht]
theorem vyR:∀ (l:List Bs) (k:Nat) (b:Bool) (q:List Bs),(∀ x,x∈l→x.length≤2000)→q.length+l.length≤10000000→forL (fun (k:Nat) (x:Bs) (s:Bool×(List Bs))=>z1w k x s.1 s.2) (fun (s:Bool×(List Bs))=>z5m s.1 s.2) k l (b,q)=if l.all tokB then z5m (b || l.any fun x=>decide (x=[42])) (q++l.map lo) else some ([],false,9)
 | [],k,b,q,_,_=>by simp [forL]
 | x::l,k,b,q,h,hq=>by
  simp only [List.length_cons] at hq
  have hst:z1w k x b q=if tokB x then some (.inl (b || decide (x=[42]),q++[lo x])) else some (.inr ([],false,9)):=by
   unfold z1w
   rw [y4b x (by have:=h x (by simp); omega)]
   simp only [Option.bind_some]
   cases ht:tokB x
   ·rfl
   ·rw [if_neg (by simp),x1a ht]
    simp only [Option.bind_some]
    rw [if_pos (by omega)]; rfl
  show (z1w k x b q).bind _=_
  rw [hst]
  cases ht:tokB x
  ·simp [ht,after]
  ·simp only [if_true,Option.bind_some,after]
   rw [vyR l (k+1) (b || decide (x=[42])) (q++[lo x]) (fun y hy=>h y (List.mem_cons_of_mem _ hy)) (by simp; omega)]
   simp [ht,Bool.or_assoc]
theorem y91 (l:List Bs) (h:l.length≤10000000) {β:Type} (f:List Bs→Option β):((Zp l).bind fun r=>(z09 r).bind fun r2=>f r2)=f (setB l):=by
 unfold Zp z09
 rw [if_pos (by omega)]
 simp only [Option.bind_some]
 rw [if_pos (by simp; omega)]
 rfl
theorem x4u:∀ l:List Bs,(l.map lo).any (fun x=>decide (([42]:Bs)=x))=l.any fun x=>decide (x=[42])
 | []=>rfl
 | x::l=>by rw [List.map_cons,List.any_cons,List.any_cons,x99,x4u l]
theorem y8a (a:yu) (h0:hdsE a.Headers=0) (h2:∀ x,x∈a.Headers→nmOK x):Zx a=some (vyL (ptsB (qx vyN a.Headers)))∧z4j a=some (vyL (ptsB (qx vyN a.Headers))):=by
 have hl:=y2x h0
 have hv:=z25 a.Headers vyN (by omega) h2 ⟨rfl,by decide⟩
 have hV:=y8d h0 vyN
 have hp1:=y5e _ hV
 have hp2:=x9p _ hV
 have hpl:=x9d _ hV
 have hm:∀ x,x∈ptsB (qx vyN a.Headers)→x.length≤2000:=fun x hx=>by
  obtain ⟨v,hv1,hv2,_⟩:=x9c hx
  have:=hV.2 v hv1
  omega
 unfold Zx z4j
 show (ux a.Headers vyN).bind _=_∧(Zt a.Headers vyN).bind _=_
 rw [hv.1,hv.2]
 simp only [Option.bind_some]
 rw [hp1,hp2]
 simp only [Option.bind_some]
 generalize ptsB (qx vyN a.Headers)=P at *
 rw [if_pos (by omega),if_pos (by omega)]
 have a1:=vyP P [] hm
 have a2:=vyR P 0 false [] hm (by simp; omega)
 simp only [List.length_nil,List.nil_append,Bool.false_or] at a1 a2
 rw [a1,a2]
 unfold vyL
 cases P.all tokB
 ·simp
 ·simp only [if_true]
  have hi:=y6s (P.map lo) [42] (by simp; omega)
  have hk:z4d (P.map lo)=some (setB (P.map lo)):=by
   unfold z4d ui
   rw [if_pos (by simp; omega)]
   simp only [Option.bind_some]
   exact y91 (P.map lo) (by simp; omega) fun r=>some r
  unfold z0c z5m z7z
  rw [hi,hk]
  simp only [Option.bind_some]
  have hd:decide (0≤idxB (P.map lo) [42])=P.any fun x=>decide (x=[42]):=by
   unfold idxB
   rw [y7e,x4u]
  rw [hd]
  cases P.any fun x=>decide (x=[42])
  ·simp only [Bool.false_eq_true,if_false]
   rw [y91 (P.map lo) (by simp; omega) fun r15=>if decide (10 < (r15.length:Int)) then (some ([],false,2)) else (some (r15,false,0))]
   by_cases h10:10 < ((setB (P.map lo)).length:Int)
   ·rw [if_pos (by simpa using h10),if_pos h10]; exact ⟨rfl,rfl⟩
   ·rw [if_neg (by simpa using h10),if_neg h10]; exact ⟨rfl,rfl⟩
  ·exact ⟨rfl,rfl⟩
theorem x5f {P:List Bs} {n:Bs} (h:n∈(vyL P).1):ascB n=true∧n.length≤100000:=by
 unfold vyL at h
 by_cases hP:P.all tokB=true
 ·rw [if_pos hP] at h
  have key:n∈setB (P.map lo):=by
   split at h
   ·simp at h
   ·split at h
    ·simp at h
    ·exact h
  rw [x75] at key
  obtain ⟨x,hx,rfl⟩:=List.mem_map.1 key
  have ht:=List.all_eq_true.1 hP x hx
  have:=y4c ht
  exact ⟨x4s (z64 ht),by unfold lo Lib.toLowerA; rw [List.length_map]; omega⟩
 ·rw [if_neg hP] at h; simp at h
theorem x5g {P:List Bs}:(vyL P).1.length≤10:=by
 unfold vyL
 split
 ·split
  ·simp
  ·split
   ·simp
   ·show (setB (P.map lo)).length≤10
    omega
 ·simp
def suB (V:List Bs×Bool×Int) (a b:zw):Bool:=
 if (decide (a.Host≠b.Host) || decide (a.Path≠b.Path) || decide (a.Query≠b.Query)) || (decide (a.Method≠b.Method) && !(decide (a.Method=[71,69,84]) && decide (b.Method=[72,69,65,68]))) then false
 else if V.2.1 then false else !(V.1.any fun n => !decide (qx n a.Headers=qx n b.Headers))
theorem x37 {a b:zw} (ha:hnP a.Headers) (hb:hnP b.Headers) (n:Bs) (hn:ascB n=true∧n.length≤100000) :
  z1l n a b=some (!decide (qx n a.Headers=qx n b.Headers))∧Wj n a b=some (!decide (qx n a.Headers=qx n b.Headers)):=by
 have h1:=z25 a.Headers n ha.1 ha.2 hn
 have h2:=z25 b.Headers n hb.1 hb.2 hn
 have hl:(qx n a.Headers).length≤1000:=by unfold qx; rw [List.length_map]; have:=List.length_filter_le (nmB n) a.Headers; have:=ha.1; omega
 unfold z1l Wj
 rw [h1.1,h1.2,h2.1,h2.2]
 simp only [Option.bind_some]
 rw [eqY _ _ (by omega)]
 exact ⟨rfl,rfl⟩
theorem x6r {a b:zw} (ha:hnP a.Headers) (hb:hnP b.Headers) (r:yu) (V:List Bs×Bool×Int) (h1:Zx r=some V) (h0:V.2.2=0) (hV:V.1.length≤10∧∀ n,n∈V.1→ascB n=true∧n.length≤100000) :
  Wr a r b=some (suB V a b)∧(if ((((V.2.1 || (decide (a.Host≠b.Host))) || (decide (a.Path≠b.Path))) || (decide (a.Query≠b.Query))) || ((decide (a.Method≠b.Method)) && ((decide (a.Method≠[71,69,84])) || (decide (b.Method≠[72,69,65,68]))))) then (some (false,(0:Int))) else ((z08 V.1 (fun (a0:Bs)=>Wj a0 a b)).bind fun (r12:(Bool))=>some (!r12,(0:Int))))=some (suB V a b,0):=by
 have c1:z08 V.1 (fun (a0:Bs)=>z1l a0 a b)=some (V.1.any fun n => !decide (qx n a.Headers=qx n b.Headers)):=
  x3i V.1 (fun n => !decide (qx n a.Headers=qx n b.Headers)) (by omega) fun n hn=>(x37 ha hb n (hV.2 n hn)).1
 have c2:z08 V.1 (fun (a0:Bs)=>Wj a0 a b)=some (V.1.any fun n => !decide (qx n a.Headers=qx n b.Headers)):=
  x3i V.1 (fun n => !decide (qx n a.Headers=qx n b.Headers)) (by omega) fun n hn=>(x37 ha hb n (hV.2 n hn)).2
 unfold Wr suB
 rw [h1,c2]
 simp only [Option.bind_some]
 rw [c1]
 simp only [Option.bind_some,h0]
 generalize (V.1.any fun n => !decide (qx n a.Headers=qx n b.Headers))=z
 generalize V.2.1=y
 have e1:(decide (a.Method≠[71,69,84]) || decide (b.Method≠[72,69,65,68])) = !(decide (a.Method=[71,69,84]) && decide (b.Method=[72,69,65,68])):=by
  simp only [ne_eq,decide_not,Bool.not_and]
 rw [e1]
 generalize decide (a.Host≠b.Host)=x1
 generalize decide (a.Path≠b.Path)=x2
 generalize decide (a.Query≠b.Query)=x3
 generalize (decide (a.Method≠b.Method) && !(decide (a.Method=[71,69,84]) && decide (b.Method=[72,69,65,68])))=x4
 cases x1 <;> cases x2 <;> cases x3 <;> cases x4 <;> cases y <;> cases z <;> exact ⟨rfl,rfl⟩
def agN:Bs:=[97,103,101]
def agV (e:yc):Int:=match (qx agN e.Response.Headers)[0]? with | some x=>if sOK x then nOf x else 0 | none=>0
theorem x0c {x:Bs} (h:sOK x=true):0≤nOf x∧nOf x≤100000000:=by
 unfold sOK outP at h
 unfold nOf
 simp only [Bool.and_eq_true,Bool.not_eq_true',Bool.or_eq_false_iff,decide_eq_false_iff_not] at h
 rw [if_pos h.1]; omega
theorem w5b (e:yc):0≤agV e∧agV e≤100000000:=by
 unfold agV
 split
 ·split
  ·rename_i h; exact x0c h
  ·omega
 ·omega
theorem w5a (e:yc) (at_:Int) (h0:hdsE e.Response.Headers=0) (h2:∀ x,x∈e.Response.Headers→nmOK x) (ht:-1000000000000000≤at_ - e.At∧at_ - e.At≤1000000000000000) :
  z8v e at_=some (at_ - e.At+1000 * agV e)∧z4p e at_=some (at_ - e.At+1000 * agV e):=by
 have hl:=y2x h0
 have hv:=z25 e.Response.Headers agN (by omega) h2 ⟨rfl,by decide⟩
 have hV:=y8d h0 agN
 have hb:=w5b e
 have hJ:∀ n:Int,0≤n→n≤100000000→z0d e at_ n=some (at_ - e.At+1000 * n)∧z0b e at_ n=some (at_ - e.At+1000 * n):=fun n h1 h3=>by
  unfold z0d z0b
  rw [wa (n:=at_ - e.At) (by omega),wa (n:=n * 1000) (by omega),wa (n:=1000 * n) (by omega),wa (by omega),wa (by omega),Int.mul_comm n 1000]
  exact ⟨rfl,rfl⟩
 unfold z8v z4p
 show (ux e.Response.Headers agN).bind _=_∧(Zt e.Response.Headers agN).bind _=_
 rw [hv.1,hv.2]
 simp only [Option.bind_some]
 unfold agV at hb ⊢
 cases hx:qx agN e.Response.Headers with
 | nil =>
  obtain ⟨j1,j2⟩:=hJ 0 (by omega) (by omega)
  simp [j1,j2]
 | cons x l =>
  have hxl:x.length≤2000:=hV.2 x (by rw [hx]; simp)
  obtain ⟨w,w1,w2,w3⟩:=x84 x 9 (by omega) (by omega)
  have w1':Wm x 9=some (w,okN 9 x):=w1
  rw [hx] at hb
  simp only [List.length_cons,List.getElem?_cons_zero,Option.bind_some] at hb ⊢
  have hpos:decide (0 < ((l.length+1:Nat):Int))=true:=by simp
  rw [if_pos hpos,if_pos hpos,x0b x (by omega),w1']
  simp only [Option.bind_some]
  rw [y2t]
  simp only [Option.bind_some]
  unfold z56
  cases hs:sOK x
  ·obtain ⟨j1,j2⟩:=hJ 0 (by omega) (by omega)
   simp only [Bool.false_eq_true,if_false]
   refine ⟨j1,?_⟩
   unfold sOK at hs
   cases ho:okN 9 x
   ·simp only [Bool.false_eq_true,if_false]; exact j2
   ·rw [ho,Bool.true_and] at hs
    rw [w2 ho,hs]
    simp only [if_true,Bool.false_eq_true,if_false]; exact j2
  ·have hb2:=x0c hs
   obtain ⟨j1,j2⟩:=hJ (nOf x) hb2.1 hb2.2
   simp only [if_true]
   refine ⟨j1,?_⟩
   unfold sOK at hs
   simp only [Bool.and_eq_true] at hs
   have hw:w=nOf x:=by unfold nOf; rw [if_pos hs.1]; exact w2 hs.1
   rw [hs.1]
   simp only [if_true]
   rw [w2 hs.1,hs.2,← w2 hs.1]
   simp only [if_true]
   rw [hw]; exact j2
def enP (e:yc):Prop:=(rqA e.Request∧qOK e.Request.Query)∧haP 100 e.Response.Headers∧e.Tags.length≤100∧∀ t,t∈e.Tags→t.length≤1000
theorem y6y {n:Nat} {l:List zt} (h:haP n l):∀ x,x∈l→nmOK x:=fun x hx=>(h.2 x hx).2
theorem x8w (r:yu) (h:hdsP r.Headers):∃ e,Zs r=some e∧z4k r=some e∧(e=0→hdsE r.Headers=0):=by
 obtain ⟨e,e1,e2⟩:=x8v r h
 refine ⟨e,e1,e2,fun h0 => ?_⟩
 subst h0
 have hh:=z9l r.Headers h
 unfold Zs at e1
 rw [y1j,hh.1] at e1
 simp only [Option.bind_some] at e1
 by_cases h0:hdsE r.Headers=0
 ·exact h0
 ·split at e1
  ·simp at e1
  ·rw [if_pos (by simpa using h0)] at e1
   exact absurd (Option.some.inj e1) h0
def tgE (l:List Bs) (k:Nat) (x:Bs):Int:=if keyP x then (match (if 0 < k then l[k - 1]? else none) with | some y=>if Op.bytesLess x y || x == y then 7 else 0 | none=>0) else 5
theorem y86 (l:List Bs) (h:∀ t,t∈l→t.length≤1000) (e:yc) (he:e.Tags=l) (j:Nat) (x:Bs) (hx:l[j]?=some x) :
  z4x l j x=(if tgE l j x≠0 then some (.inr (tgE l j x)) else some (.inl ()))∧z50 e j x=(if tgE l j x≠0 then some (.inr (tgE l j x)) else some (.inl ())):=by
 have hxl:=h x (List.mem_of_getElem? hx)
 unfold z4x z50 z4y z52 tgE
 rw [w2x x (by omega),w0v x (by omega),he]
 simp only [Option.bind_some]
 cases keyP x
 ·simp
 ·cases j with
  | zero=>simp
  | succ j =>
   have hj:((j+1:Nat):Int) - 1=(j:Int):=by omega
   have hlt:=Ws hx
   obtain ⟨y,hy⟩:∃ y,l[j]?=some y:=⟨_,List.getElem?_eq_getElem (by omega)⟩
   rw [hj,z2y,hy]
   simp only [Bool.not_true,Bool.false_eq_true,if_false,Option.bind_some,if_true,Nat.zero_lt_succ,Nat.add_sub_cancel,hy]
   cases (Op.bytesLess x y || x == y) <;> simp
theorem w3z (e:yc) (a b:Int):forL (fun (k:Nat) (x:Int) (s:Unit)=>z9q k x) (fun (s:Unit)=>z55 e) 0 [a,b] ()=if a≠0 then some a else if b≠0 then some b else z55 e:=by
 rw [y3e [a,b] 0 (e:=fun _ x=>x) (fun j x _ _=>by unfold z9q; by_cases h:x=0 <;> simp [h])]
 simp only [feI]
 by_cases h:a=0
 ·by_cases h2:b=0
  ·simp [h,h2]
  ·simp [h,h2]
 ·simp [h]
theorem w33 (e:yc) (h:enP e):∃ f,Zy e=some f∧Wp e=some f ∧
  (f=0→kq e.Request=some 0∧hdsE e.Response.Headers=0∧momP e.At=true∧(vyL (ptsB (qx vyN e.Response.Headers))).2.2=0):=by
 obtain ⟨⟨⟨hr,hr2⟩,hq⟩,ha,ht,ht2⟩:=h
 obtain ⟨e1,a1,a2,a3⟩:=y48 e.Request hr
 obtain ⟨e2,b1,b2,b3⟩:=x8w e.Response (x3a ha (by omega))
 unfold Zy Wp
 rw [a1,a2,b1,b2]
 simp only [Option.bind_some]
 rw [if_pos (show ([e1,e2]:List Int).length≤1000000000 by simp),w3z]
 by_cases z1:e1=0
 ·subst z1
  simp only [ne_eq,not_true_eq_false,decide_false,Bool.false_eq_true,if_false]
  by_cases z2:e2=0
  ·subst z2
   have h0:=b3 rfl
   obtain ⟨v1,v2⟩:=y8a e.Response h0 (y6y ha)
   simp only [not_true_eq_false,decide_false,Bool.false_eq_true,if_false]
   unfold z55
   rw [z48,z48,y1l,y1l]
   simp only [Option.bind_some]
   have hJ:∀ b:Bool,z2x e b=z0a e b∧∃ f,z0a e b=some f∧(f=0→b=false∧(vyL (ptsB (qx vyN e.Response.Headers))).2.2=0):=fun b=>by
    unfold z2x z0a y13
    cases b
    ·simp only [Bool.false_eq_true,if_false]
     by_cases h20:20 < (e.Tags.length:Int)
     ·have h2p:decide (20 < (e.Tags.length:Int))=true:=by simpa using h20
      rw [if_pos h2p,if_pos h2p]
      exact ⟨rfl,2,rfl,by simp⟩
     ·have h2n:¬ decide (20 < (e.Tags.length:Int))=true:=by simpa using h20
      have hln:e.Tags.length≤1000000000:=by omega
      rw [if_neg h2n,if_neg h2n,if_pos hln,if_pos hln]
      have t1:forL (fun (k:Nat) (x:Bs) (s:Unit)=>z4x e.Tags k x) (fun (s:Unit)=>y2c) 0 e.Tags ()=some (feI (tgE e.Tags) 0 e.Tags):=
       y3f rfl e.Tags 0 fun j x _ hx=>(y86 e.Tags ht2 e rfl j x (by simpa using hx)).1
      have t2:forL (fun (k:Nat) (x:Bs) (s:Unit)=>z50 e k x) (fun (s:Unit)=>z54 e) 0 e.Tags ()=if feI (tgE e.Tags) 0 e.Tags≠0 then some (feI (tgE e.Tags) 0 e.Tags) else z54 e:=
       y3e e.Tags 0 fun j x _ hx=>(y86 e.Tags ht2 e rfl j x (by simpa using hx)).2
      rw [t1,t2]
      simp only [Option.bind_some]
      unfold z54
      rw [v1,v2]
      simp only [Option.bind_some]
      by_cases hf:feI (tgE e.Tags) 0 e.Tags=0
      ·rw [if_neg (show ¬ decide (feI (tgE e.Tags) 0 e.Tags≠0)=true by simpa using hf),if_neg (show ¬ feI (tgE e.Tags) 0 e.Tags≠0 by simpa using hf)]
       exact ⟨rfl,_,rfl,fun h=>⟨trivial,h⟩⟩
      ·rw [if_pos (show decide (feI (tgE e.Tags) 0 e.Tags≠0)=true by simpa using hf),if_pos hf]
       exact ⟨rfl,_,rfl,fun h=>absurd h hf⟩
    ·exact ⟨rfl,1,rfl,by simp⟩
   cases hm:momP e.At
   ·obtain ⟨j1,f,j2,j3⟩:=hJ true
    simp only [Bool.not_false,if_true]
    rw [j1,j2]
    exact ⟨f,rfl,rfl,fun h=>by have:=(j3 h).1; cases this⟩
   ·obtain ⟨j1,f,j2,j3⟩:=hJ (!momP e.Used)
    simp only [Bool.not_true,Bool.false_eq_true,if_false]
    rw [j1,j2]
    exact ⟨f,rfl,rfl,fun h=>⟨trivial,h0,trivial,(j3 h).2⟩⟩
  ·rw [if_pos (show decide (¬e2=0)=true by simpa using z2),if_pos z2]
   exact ⟨e2,rfl,rfl,fun h=>absurd h z2⟩
 ·rw [if_pos (show decide (e1≠0)=true by simpa using z1),if_pos z1]
  exact ⟨e1,rfl,rfl,fun h=>absurd h z1⟩
theorem x90 {a b:zw} {x y:zw×Int} (h1:xk a=some x) (h2:xk b=some y) :
  z8t a b=some (x.1,(if x.2=0 then y.1 else zw.mk 0 [] [] [] [] [] [] []),if x.2=0 then y.2 else x.2):=by
 unfold z8t z6n
 rw [h1,h2]
 simp only [Option.bind_some]
 by_cases h:x.2=0
 ·rw [if_pos (by simpa using h),if_pos h,if_pos h]
 ·rw [if_neg (by simpa using h),if_neg h,if_neg h]
theorem x6s (e:yc) (r:zw) (he:enP e) (h0:hdsE e.Response.Headers=0) (hv:(vyL (ptsB (qx vyN e.Response.Headers))).2.2=0) {x y:zw×Int}
  (x2:Zu e.Request=some x) (y2:Zu r=some y) (x3:hnP x.1.Headers) (y3:hnP y.1.Headers) :
  Wl e r=some (if x.2≠0 then (false,x.2) else if y.2≠0 then (false,y.2) else (suB (vyL (ptsB (qx vyN e.Response.Headers))) x.1 y.1,0)) ∧
  Wr x.1 e.Response y.1=some (suB (vyL (ptsB (qx vyN e.Response.Headers))) x.1 y.1):=by
 obtain ⟨v1,v2⟩:=y8a e.Response h0 (y6y he.2.1)
 obtain ⟨s1,s2⟩:=x6r x3 y3 e.Response _ v1 hv ⟨x5g,fun n hn=>x5f hn⟩
 refine ⟨?_,s1⟩
 unfold Wl
 rw [x2,y2,v2]
 simp only [Option.bind_some]
 by_cases hx:x.2=0
 ·rw [if_neg (show ¬ decide (x.2≠0)=true by simpa using hx),if_neg (show ¬ x.2≠0 by simpa using hx)]
  by_cases hy:y.2=0
  ·rw [if_neg (show ¬ decide (y.2≠0)=true by simpa using hy),if_neg (show ¬ y.2≠0 by simpa using hy)]
   exact s2
  ·rw [if_pos (show decide (y.2≠0)=true by simpa using hy),if_pos hy]
 ·rw [if_pos (show decide (x.2≠0)=true by simpa using hx),if_pos hx]
def rqS (r:zw):Prop:=rqA r∧qOK r.Query
theorem x4n {k:Int} {s:zr} (h:SB k s) (hk:k≤50000) (v:Int):Ok (z4r s v) fun r=>rqS r.1∧SB (k+400) r.2:=by
 have hJ5:∀ (r3 r5:Bs×zr) (l:List zt) (c:List Int) (a:Int) (p q:Bs),r3.1.length≤100→r5.1∈ke→p.length≤100000→q.length≤100000∧qOK q→haP 20 l→SB (k+400) (zr.mk c a)→Ok (z2h v r3 r5 l c a p q) fun r=>rqS r.1∧SB (k+400) r.2:=by
  intro r3 r5 l c a p q h1 h2 h3 h4 h5 hs
  unfold z2h
  exact qg ⟨⟨⟨⟨by show r3.1.length≤_; omega,h2,h3,h4.1,by simp,x3a h5 (by omega)⟩,jh h5 (by omega)⟩,h4.2⟩,hs⟩
 have hJ4:∀ (r3 r5 r7 r9:Bs×zr) (c:List Int) (a:Int) (l:List zt),r3.1.length≤100→r5.1∈ke→r7.1.length≤100→r9.1.length≤100∧qOK r9.1→haP 20 l→SB (k+100) (zr.mk c a)→Ok (z2i v r3 r5 r7 r9 c a l) fun r=>rqS r.1∧SB (k+400) r.2:=by
  intro r3 r5 r7 r9 c a l h1 h2 h3 h4 h5 hs
  unfold z2i
  refine yf (ji hs (by omega) 40 (by omega)) fun r hr=>wh (fun _ => ?_) (fun _=>hJ5 _ _ _ _ _ _ _ h1 h2 (by omega) ⟨by omega,h4.2⟩ h5 (hr.mono (by omega)))
  exact yf (x9n hr (by omega)) fun r50 h50=>yf (x89 h50.2 (by omega)) fun r52 h52=>hJ5 _ _ _ _ _ _ _ h1 h2 h50.1 ⟨by have:=h52.1.1; omega,h52.1.2⟩ h5 (h52.2.mono (by omega))
 have hJ3:∀ (r3 r5 r7 r9:Bs×zr) (c:List Int) (a:Int) (l:List zt),r3.1.length≤100→r5.1∈ke→r7.1.length≤100→r9.1.length≤100∧qOK r9.1→haP 10 l→SB (k+80) (zr.mk c a)→Ok (z2j v r3 r5 r7 r9 c a l) fun r=>rqS r.1∧SB (k+400) r.2:=by
  intro r3 r5 r7 r9 c a l h1 h2 h3 h4 h5 hs
  unfold z2j
  refine yf (ji hs (by omega) 8 (by omega)) fun r hr=>wh (fun _ => ?_) (fun _=>hJ4 _ _ _ _ _ _ _ h1 h2 h3 h4 (jh h5 (by omega)) (hr.mono (by omega)))
  exact yf (xh hr (by omega) 100 _ ⟨by simp,by simp⟩ (by decide)) fun r41 h41=>ok_g (by have:=h5.1; omega) (hJ4 _ _ _ _ _ _ _ h1 h2 h3 h4 (jh (z9m h5 _ _ ⟨rfl,by simp⟩ (by have:=h41.1; omega)) (by omega)) (h41.2.mono (by omega)))
 have hJ2:∀ (r3 r5 r7 r9:Bs×zr) (c:List Int) (a:Int) (l:List zt),r3.1.length≤100→r5.1∈ke→r7.1.length≤100→r9.1.length≤100∧qOK r9.1→haP 5 l→SB (k+70) (zr.mk c a)→Ok (z2k v r3 r5 r7 r9 c a l) fun r=>rqS r.1∧SB (k+400) r.2:=by
  intro r3 r5 r7 r9 c a l h1 h2 h3 h4 h5 hs
  unfold z2k
  refine yf (ji hs (by omega) 12 (by omega)) fun r hr=>wh (fun _ => ?_) (fun _=>hJ3 _ _ _ _ _ _ _ h1 h2 h3 h4 (jh h5 (by omega)) (hr.mono (by omega)))
  exact ok_g (by have:=h5.1; omega) (hJ3 _ _ _ _ _ _ _ h1 h2 h3 h4 (jh (z9m h5 _ _ ⟨rfl,by simp⟩ (by simp)) (by omega)) (hr.mono (by omega)))
 have hJ1:∀ (r3 r5 r7 r9:Bs×zr) (c:List Int) (a:Int) (l:List zt),r3.1.length≤100→r5.1∈ke→r7.1.length≤100→r9.1.length≤100∧qOK r9.1→haP 2 l→SB (k+30) (zr.mk c a)→Ok (z2l v r3 r5 r7 r9 c a l) fun r=>rqS r.1∧SB (k+400) r.2:=by
  intro r3 r5 r7 r9 c a l h1 h2 h3 h4 h5 hs
  unfold z2l
  refine yf (ji hs (by omega) 4 (by omega)) fun r hr=>wh (fun _ => ?_) (fun _=>hJ2 _ _ _ _ _ _ _ h1 h2 h3 h4 (jh h5 (by omega)) (hr.mono (by omega)))
  exact yf (w44 hr (by omega)) fun r25 h25=>ok_g (by have:=h5.1; omega) (hJ2 _ _ _ _ _ _ _ h1 h2 h3 h4 (jh (z9m h5 _ _ ⟨rfl,by simp⟩ h25.1) (by omega)) (h25.2.mono (by omega)))
 unfold z4r
 refine yf (xh h (by omega) 100 _ ⟨by simp,by simp⟩ (by decide)) fun r3 h3=>yf (xx h3.2 (by omega) _ ⟨by simp,by simp⟩) fun r5 h5=>yf (xh h5.2 (by omega) 100 _ ⟨by simp,by simp⟩ (by decide)) fun r7 h7=>yf (xx h7.2 (by omega) _ ⟨by simp,by simp⟩) fun r9 h9=>yf (ji h9.2 (by omega) 3 (by omega)) fun r11 h11 => ?_
 have h9q:r9.1.length≤100∧qOK r9.1:=by
  have hm:=h9.1
  simp only [List.mem_cons,List.not_mem_nil,or_false] at hm
  rcases hm with e | e | e | e <;> rw [e] <;> exact ⟨by decide,.inl (by decide)⟩
 have hh:r5.1∈ke:=(show ∀ x,x∈([[97,46,98],[97,46,98],[65,46,66,58,56,48],[99,46,100]]:List Bs)→x∈ke by decide +kernel) _ h5.1
 refine wh (fun _ => ?_) (fun _=>hJ1 _ _ _ _ _ _ _ h3.1 hh h7.1 h9q (y2y 2) (h11.mono (by omega)))
 exact yf (y01 h11 (by omega) 3000 _ ⟨by simp,by simp⟩ (by decide +kernel)) fun r14 h14=>yf (xh h14.2 (by omega) 100 _ ⟨by simp,by simp⟩ (by decide)) fun r16 h16=>ok_g (by simp) (hJ1 _ _ _ _ _ _ _ h3.1 hh h7.1 h9q (jh (z9m (y2y 0) _ _ h14.1 (by have:=h16.1; omega)) (by omega)) (h16.2.mono (by omega)))
theorem x3z {k:Int} {s:zr} (h:SB k s) (hk:k≤4000):Ok (z4q s) fun r=>enP r.1∧SB (k+620) r.2:=by
 unfold z4q
 refine yf (x4n h (by omega) 0) fun r2 h2=>yf (w4r h2.2 (by omega)) fun r4 h4=>yf (z7h h4.2 (by omega) _ ⟨by simp,by simp⟩) fun r6 h6=>yf (Zn h6.2 (by omega) 3 (by omega)) fun r8 h8 => ?_
 have hJ:∀ (c30:List Int) (c31:Int) (c32:Bs) (c33:Int) (c34:List Bs) (c35:Int),SB (k+620) (zr.mk c30 c31)→c32∈ke→(c34.length≤100∧∀ t,t∈c34→t.length≤1000)→Ok (Qg r2 r4 c30 c31 c32 c33 c34 c35) fun r=>enP r.1∧SB (k+620) r.2:=by
  intro c30 c31 c32 c33 c34 c35 hs hh ht
  obtain ⟨⟨⟨⟨q1,q2,q3,q4,q5,q6⟩,qA⟩,qq⟩,_⟩:=h2
  exact qg ⟨⟨⟨⟨⟨q1,hh,q3,q4,q5,q6⟩,qA⟩,qq⟩,h4.1,ht⟩,hs⟩
 obtain ⟨⟨n1,n2,_⟩,n4⟩:=h8
 have hx:∃ x,at? ([[],[[114,101,100]],[[98,108,117,101],[114,101,100]]]:List (List Bs)) r8.1=some x∧(x.length≤100∧∀ t,t∈x→t.length≤1000):=by
  have:=n2 (by omega)
  rcases (show r8.1=0∨r8.1=1∨r8.1=2 by omega) with e | e | e <;> rw [e] <;> exact ⟨_,rfl,by decide,by decide⟩
 obtain ⟨x10,x1,x2⟩:=hx
 have hhost:r2.1.Host∈ke:=h2.1.1.1.2.1
 rw [x1]
 simp only [Option.bind_some]
 refine yf (ji n4 (by omega) 20 (by omega)) fun r12 h12=>wh (fun _ => ?_) (fun _=>hJ _ _ _ _ _ _ (h12.mono (by omega)) hhost x2)
 refine yf (Zn h12 (by omega) 4 (by omega)) fun r15 h15 => ?_
 refine wh (fun _=>yf (y5m h15.2 (by omega) 0 100 (by omega)) fun r18 h18=>hJ _ _ _ _ _ _ (h18.2.mono (by omega)) hhost x2) (fun _ => ?_)
 refine wh (fun _=>yf (y5m h15.2 (by omega) 0 100 (by omega)) fun r18 h18=>hJ _ _ _ _ _ _ (h18.2.mono (by omega)) hhost x2) (fun _ => ?_)
 refine wh (fun _=>yf (Zn h15.2 (by omega) 3 (by omega)) fun r24 h24 => ?_) (fun _=>yf (w26 h15.2 (by omega)) fun r28 h28=>hJ _ _ _ _ _ _ (h28.2.mono (by omega)) h28.1 x2)
 obtain ⟨⟨m1,m2,_⟩,m4⟩:=h24
 have hx:∃ x,at? ([[[114,101,100],[98,108,117,101]],[[]],[[65]]]:List (List Bs)) r24.1=some x∧(x.length≤100∧∀ t,t∈x→t.length≤1000):=by
  have:=m2 (by omega)
  rcases (show r24.1=0∨r24.1=1∨r24.1=2 by omega) with e | e | e <;> rw [e] <;> exact ⟨_,rfl,by decide,by decide⟩
 obtain ⟨x26,y1,y2⟩:=hx
 rw [y1]
 simp only [Option.bind_some]
 exact hJ _ _ _ _ _ _ (m4.mono (by omega)) hhost y2
end Go.Proofs.YtmdllhcjefcggacGreatDoor
