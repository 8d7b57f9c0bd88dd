/- Plain: streams of requests and responses for caches. -/
import Derived.Test.YtmdllhcjefcggabGreatDoorQyZl
import Derived.Test.YtmdllhcjefcggabGreatDoorSrZl
namespace Go.Proofs.YtmdllhcjefcggabGreatDoor
set_option linter.unusedVariables false
set_option maxRecDepth 20000
def qOK (q:Bs):Prop:=(spl 38 q).length≤12∨((spl 38 q).filter fun x => !decide (x=[])).length=101
theorem y7x {k:Int} {s:zt} (h:SB k s) (hk:k≤1000000) (m:Nat) (hm:m≤1000) (sep:Bs) (hsep:sep.length≤10) (l:List Bs) (hl:l≠[]∧l.length≤1000) (hB:∀ x,x∈l→x.length≤20) :
  Ok (kz s (m:Int) sep l) fun r=>(∃ ws:List Bs,ws.length=m∧(∀ w,w∈ws→w∈l)∧r.1=Lib.join ws sep∧r.1.length≤30000)∧SB (k+m) r.2:=by
 unfold kz
 refine ok_g (by omega) ?_
 rw [Int.toNat_natCast]
 refine y1v (fun j (q:List Int×Int×List Bs)=>j≤m∧SB (k+(j:Int)) (zt.mk q.1 q.2.1)∧q.2.2.length=j∧∀ x,x∈q.2.2→x∈l) m 0 _ ⟨by omega,h.mono (by omega),by simp,by simp⟩ ?_ ?_
 ·rintro j ⟨c5,c6,l7⟩ _ hj ⟨h0,h1,h2,h3⟩
  simp only at h1 h2 h3 ⊢
  unfold z6g
  refine yg (xz h1 (by omega) l hl) fun r hr=>ok_g (by omega) (yw ?_)
  refine ⟨by omega,hr.2.mono (by omega),by simp; omega,fun x hx => ?_⟩
  rcases List.mem_append.1 hx with h | h
  ·exact h3 x h
  ·have:x=r.1:=by simpa using h
   rw [this]; exact hr.1
 ·rintro ⟨c5,c6,l7⟩ ⟨h0,h1,h2,h3⟩
  simp only at h1 h2 h3 ⊢
  have hj:=z5g 20 sep l7 fun x hx=>hB x (h3 x hx)
  have hmm:l7.length * (20+sep.length)≤1000 * 30:=Nat.mul_le_mul (by omega) (by omega)
  unfold z6h
  have hJ:jr l7 sep=some (Lib.join l7 sep):=by
   unfold jr
   rw [if_pos ⟨by omega,by omega⟩]
  rw [hJ]
  exact yw ⟨⟨l7,by omega,h3,rfl,by simp only; omega⟩,h1.mono (by omega)⟩
theorem x31:∀ l:List Bs,(∀ x,x∈l→(38:UInt8) ∉ x)→(l.map (spl 38)).flatten=l
 | [],_=>rfl
 | x::l,h=>by
  rw [List.map_cons,List.flatten_cons,y4k 38 x (h x (by simp)),x31 l fun y hy=>h y (List.mem_cons_of_mem _ hy)]; rfl
theorem y92 (ws:List Bs) (h:∀ x,x∈ws→(38:UInt8) ∉ x) (hn:ws≠[]):spl 38 (Lib.join ws [38])=ws:=by
 rw [y4l 38 ws hn,x31 ws h]
theorem x8x {k:Int} {s:zt} (h:SB k s) (hk:k≤100000):Ok (z1l s) fun r=>(r.1.length≤30000∧qOK r.1)∧SB (k+200) r.2:=by
 unfold z1l z2a
 refine yg (z3m h (by omega) 0 4 (by omega)) fun r hr => ?_
 obtain ⟨m,hm⟩:∃ m:Nat,r.1=(m:Int):=⟨r.1.toNat,by omega⟩
 rw [hm]
 refine yg (y7x hr.2 (by omega) m (by omega) [38] (by simp) _ ⟨by simp,by simp⟩ (by decide)) fun r2 h2=>yg (jb h2.2 (by omega) 12 (by omega)) fun r3 h3=>qz (fun _ => ?_) (fun _=>yw ⟨?_,?_⟩)
 ·refine yg (y7x h3 (by omega) 101 (by omega) [38] (by simp) [[120]] ⟨by simp,by simp⟩ (by decide)) fun r4 h4=>yg (xz h4.2 (by omega) _ ⟨by simp,by simp⟩) fun r5 h5=>yw ⟨?_,?_⟩
  ·obtain ⟨⟨ws,w1,w2,w3,w4⟩,_⟩:=h4
   have hx:∀ w,w∈ws→w=[120]:=fun w hw=>by simpa using w2 w hw
   have hq4:qOK r4.1:=by
    right
    rw [w3,y92 ws (fun x hx'=>by rw [hx x hx']; decide) (by rintro rfl; simp at w1)]
    have:(ws.filter fun x => !decide (x=[]))=ws:=List.filter_eq_self.2 fun w hw=>by rw [hx w hw]; rfl
    rw [this]; exact w1
   have hm:=h5.1
   simp only [List.mem_cons,List.not_mem_nil,or_false] at hm
   rcases hm with e | e | e | e | e | e <;> rw [e] <;> first | exact ⟨w4,hq4⟩ | exact ⟨by decide,.inl (by decide)⟩
  ·exact h5.2.mono (by omega)
 ·obtain ⟨⟨ws,w1,w2,w3,w4⟩,_⟩:=h2
  refine ⟨w4,.inl ?_⟩
  rw [w3]
  by_cases hn:ws=[]
  ·subst hn; decide
  ·have hno:∀ w:Bs,w∈([[97,61,49],[98,61,50],[97,61],[61,120],[61],[99],[],[97,61,37,52,49,43,37,50,66],[100,61,120,37,50,54,121],[98,61,37,99,51],[97,61,49,61,50],[97,63,98,61,47]]:List Bs)→(38:UInt8) ∉ w:=by decide
   rw [y92 ws (fun x hx=>hno x (w2 x hx)) hn,w1]; omega
 ·exact h3.mono (by omega)
theorem x83 (x:Bs):(prQ x).Name.length≤x.length∧(prQ x).Value.length≤x.length:=by
 obtain ⟨c1,c2⟩:=y7h x
 have hd:∀ s:Bs,((dec true s).getD []).length≤s.length:=fun s=>by
  cases hs:dec true s with
  | none=>simp
  | some d=>exact w36 true s.length s d (Nat.le_refl _) hs
 have h1:=hd (Lib.cut x [61]).1
 have h2:=hd (Lib.cut x [61]).2.1
 unfold prQ
 simp only
 omega
theorem x82 {s:Bs} (h:qOK s) (hl:(prs (spl 38 s)).length≤100):(prs (spl 38 s)).length≤12:=by
 unfold prs at hl ⊢
 rw [List.length_map] at hl ⊢
 rcases h with h | h
 ·exact Nat.le_trans (List.length_filter_le _ _) h
 ·exact absurd (Nat.le_trans (Nat.le_of_eq h.symm) hl) (by decide)
theorem x81 {s:Bs} (hs:s.length≤1000):∀ p,p∈prs (spl 38 s)→p.Name.length≤1000∧p.Value.length≤1000:=fun p hp=>by
 unfold prs at hp
 obtain ⟨x,hx,rfl⟩:=List.mem_map.1 hp
 have h1:=Qz 38 s x (List.mem_filter.1 hx).1
 have h2:=x83 x
 omega
def nilP (p:zo):Bool:=(p.Name == []) && ((p.Value == []) && true)
theorem w30 (l:List zo) (hl:l.length≤1000) (hp:∀ p,p∈l→p.Name.length≤1000∧p.Value.length≤1000) :
  z4a l (fun (a0:zo)=>z8e a0)=some (l.filter fun p => !nilP p) ∧
  z4a l (fun (a0:zo)=>z1j a0)=some (l.filter fun p => !nilP p):=by
 refine ⟨y7b (zo.mk [] []) l nilP (by omega) fun p _=>rfl,y7b (zo.mk [] []) l nilP (by omega) fun p h => ?_⟩
 have:=hp p h
 show z1j p=some (nilP p)
 unfold z1j nilP
 rw [if_pos (by omega)]
 rcases p with ⟨a,b⟩
 cases a <;> cases b <;> rfl
theorem w4i:(fun (a0:zo) (a1:zo)=>z4t a0 a1)=fun (a0:zo) (a1:zo)=>xk a0 a1:=rfl
theorem w4h (a b:zo):∃ c,xk a b=some c:=by
 unfold xk z35
 split
 ·exact ⟨_,rfl⟩
 ·exact ⟨_,rfl⟩
theorem x9z:(List.range 13).all (fun n=>(z8g (IntKind.wrap .u64 (n:Int))).isSome)=true:=by decide +kernel
theorem lenN (n:Nat) (h:n≤12):∃ v,z8g (IntKind.wrap .u64 (n:Int))=some v:=by
 have h2:=List.all_eq_true.1 x9z n (by simp; omega)
 exact Option.isSome_iff_exists.1 h2
theorem x7n (l:List zo) (hl:l.length≤12):∃ r:List zo,r.Perm l∧z77 l (fun (a0:zo) (a1:zo)=>xk a0 a1)=some r ∧
  z74 l (fun (a0:zo) (a1:zo)=>z4t a0 a1)=some r:=by
 obtain ⟨r,r1,r2,r3⟩:=w3c (p:=fun (a0:zo) (a1:zo)=>xk a0 a1) (q:=fun (a0:zo) (a1:zo)=>xk a0 a1) (f:=fun x:zo=>x) l (by omega)
  (List.pairwise_of_forall (fun y x=>by
   obtain ⟨c,hc⟩:=w4h x y
   exact ⟨c,c,hc,hc,Iff.rfl⟩))
 have hlen:=r1.length_eq
 obtain ⟨v,hv⟩:=lenN l.length hl
 refine ⟨r,r1,?_,?_⟩
 ·unfold z77
  rw [hv]
  simp only [Option.bind_some]
  have e:y2f l 0 (l.length:Int) v (fun (a0:zo) (a1:zo)=>xk a0 a1)=some r:=w3b l r _ v hl r2 hlen
  rw [e]
  simp only [Option.bind_some]
  rw [if_pos hlen]
 ·rw [w4i]
  unfold z74
  have e:y2e l (l.length:Int) (fun (a0:zo) (a1:zo)=>xk a0 a1)=some r:=w28 l r _ (by omega) r2 hlen
  rw [e]
  simp only [Option.bind_some]
  rw [if_pos hlen]
def lwH (h:zn):zn:=zn.mk (lo h.Name) h.Value
def hnP (l:List zn):Prop:=l.length≤1000∧∀ y,y∈l→nmOK y
theorem y3b:hnP ([]:List zn):=⟨by simp,by simp⟩
theorem x43 {s:Bs} (h:ascB s=true):ascB (lo s)=true:=by
 unfold ascB at h ⊢
 rw [List.all_eq_true] at h ⊢
 intro c hc
 obtain ⟨d,hd,rfl⟩:=List.mem_map.1 hc
 have h1:=h d hd
 have h2:=y59 d
 simp only [decide_eq_true_eq] at h1 ⊢
 rw [h2]
 split <;> omega
theorem w20 {l:List zn} (hl:l.length≤1000) (h:∀ x,x∈l→nmOK x):hnP (l.map lwH):=by
 refine ⟨by rw [List.length_map]; exact hl,fun y hy => ?_⟩
 obtain ⟨x,hx,rfl⟩:=List.mem_map.1 hy
 obtain ⟨h1,h2⟩:=h x hx
 exact ⟨x43 h1,by show (Lib.toLowerA x.Name).length≤_; unfold Lib.toLowerA; rw [List.length_map]; exact h2⟩
theorem y58 {s:Bs} (h:ascB s=true∧s.length≤100000):jo s=some (lo s):=by
 unfold jo
 rw [if_pos ⟨by omega,h.1⟩]
theorem lowP {ρ:Type} (E:List zn→Option (zz×Int)):∀ (l pre:List zn),(∀ x,x∈l→nmOK x)→rng (fun (k:Nat) (s:(List zn))=>z05 k s) E l.length pre.length (pre++l)=E (pre++l.map lwH)
 | [],pre,_=>rfl
 | x::l,pre,h=>by
  have e1:(pre++x::l)[pre.length]?=some x:=by simp
  have e2:(pre++x::l).set pre.length (zn.mk (lo x.Name) x.Value)=(pre++[lwH x])++l:=by simp [lwH]
  have e3:pre.length+1=(pre++[lwH x]).length:=by simp
  have e4:z05 pre.length (pre++x::l)=some (.inl ((pre++[lwH x])++l)):=by
   unfold z05
   rw [e1]
   simp only [Option.bind_some]
   rw [y58 (h x (by simp))]
   simp only [Option.bind_some]
   rw [e2]
  show (z05 pre.length (pre++x::l)).bind _=_
  rw [e4]
  simp only [Option.bind_some,after]
  rw [e3,lowP (ρ:=ρ) E l (pre++[lwH x]) fun y hy=>h y (List.mem_cons_of_mem _ hy)]
  simp
theorem lowR (E:List zn→Option (zz×Int)):∀ (l:List zn) (k:Nat) (q:List zn),(∀ x,x∈l→nmOK x)→q.length+l.length≤1000000→forL (fun (k:Nat) (x:zn) (s:(List zn))=>z17 k x s) E k l q=E (q++l.map lwH)
 | [],k,q,_,_=>by simp [forL]
 | x::l,k,q,h,hq=>by
  simp only [List.length_cons] at hq
  have e4:z17 k x q=some (.inl (q++[lwH x])):=by
   unfold z17
   rw [y58 (h x (by simp))]
   simp only [Option.bind_some]
   rw [if_pos (by omega)]; rfl
  show (z17 k x q).bind _=_
  rw [e4]
  simp only [Option.bind_some,after]
  rw [lowR E l (k+1) _ (fun y hy=>h y (List.mem_cons_of_mem _ hy)) (by simp; omega)]
  simp
theorem x8l (r:zz) (h:rqP r) (e1:uj r=some 0):tokB r.Method=true:=by
 obtain ⟨p1,p2,p3,p4,p5,p6⟩:=h
 obtain ⟨b,q,c1,c2,c3⟩:=y28 p2
 unfold uj Zb at e1
 rw [z5i,z5h _ (by omega)] at e1
 simp only [Option.bind_some] at e1
 cases hm:momP r.At
 ·rw [hm] at e1; simp at e1
 ·cases ht:tokB r.Method
  ·rw [hm,ht] at e1; simp at e1
  ·rfl
theorem x09 (r:zz) (hr:rqP r) (hq:qOK r.Query):∃ x,Wp r=some x∧Wv r=some x∧hnP x.1.Headers:=by
 obtain ⟨e,e1,e2,e3⟩:=y49 r hr
 obtain ⟨p1,p2,p3,p4,p5,p6⟩:=id hr
 unfold Wp Wv
 rw [e1,e2]
 simp only [Option.bind_some]
 by_cases h0:e=0
 ·subst h0
  obtain ⟨h1,h2,hH⟩:=e3 rfl
  obtain ⟨hvp,hasc⟩:=w26 h1
  have hl:=hvp.1
  have htok:=x8l r hr e1
  obtain ⟨g,g1,g2⟩:=w2x p2
  obtain ⟨b1,b2⟩:=x89 r.Path (by omega)
  obtain ⟨c,c1,c2,c3,c4⟩:=x8w r.Query (by omega)
  rw [g1,g2,b1,b2,c1,c2]
  simp only [Option.bind_some,ne_eq,not_true_eq_false,decide_false,Bool.false_eq_true,if_false]
  by_cases k1:(npF r.Path).2=0
  ·have j1:(decide ¬(npF r.Path).2=0)=false:=by simpa using k1
   simp only [j1,Bool.false_eq_true,if_false]
   by_cases k2:c.2=0
   ·obtain ⟨c5,c6,c7⟩:=c4 k2
    have j2:(decide ¬c.2=0)=false:=by simpa using k2
    simp only [j2,Bool.false_eq_true,if_false]
    have hmem:=x81 c7
    rw [← c5] at hmem
    have hfew:c.1.length≤12:=by rw [c5]; exact x82 hq (by rw [← c5]; exact c6)
    obtain ⟨d1,d2⟩:=w30 c.1 (by omega) hmem
    rw [d1,d2]
    simp only [Option.bind_some]
    obtain ⟨s,s1,s2,s3⟩:=x7n (c.1.filter fun p => !nilP p) (by have:=List.length_filter_le (fun p => !nilP p) c.1; omega)
    rw [s2,s3]
    simp only [Option.bind_some]
    rw [if_pos s1.length_eq,if_pos s1.length_eq]
    have hsl:s.length≤12:=by rw [s1.length_eq]; have:=List.length_filter_le (fun p => !nilP p) c.1; omega
    have hsm:∀ p,p∈s→p.Name.length≤1000∧p.Value.length≤1000:=fun p hp=>hmem p (List.mem_filter.1 (s1.mem_iff.1 hp)).1
    obtain ⟨t,t1,t2⟩:=x6f s (by omega) hsm
    rw [t1,t2]
    simp only [Option.bind_some]
    by_cases k3:t.2=0
    ·have j3:(decide ¬t.2=0)=false:=by simpa using k3
     simp only [j3,Bool.false_eq_true,if_false]
     have hup:z33 r.Method=some (Lib.toUpperA r.Method):=by
      unfold z33
      rw [if_pos ⟨by omega,z3b htok⟩]
     have hcl:uz r.Headers=some r.Headers:=by unfold uz; rw [if_pos (by omega)]
     rw [hup,hcl]
     simp only [Option.bind_some]
     have hP:=lowP (ρ:=Unit) (fun (s:(List zn))=>y15 r g (npF r.Path) t (Lib.toUpperA r.Method) s) r.Headers [] (y60 hvp)
     have hR:=lowR (fun (s:(List zn))=>y3l r g (npF r.Path) t (Lib.toUpperA r.Method) s) r.Headers 0 [] (y60 hvp) (by simp only [List.length_nil]; omega)
     rw [if_pos (by omega),if_pos (by omega),hR]
     refine ⟨_,hP,rfl,?_⟩
     exact w20 (by omega) (y60 hvp)
    ·have j3:(decide ¬t.2=0)=true:=by simpa using k3
     simp only [j3,if_true]
     exact ⟨_,rfl,rfl,y3b⟩
   ·have j2:(decide ¬c.2=0)=true:=by simpa using k2
    simp only [j2,if_true]
    exact ⟨_,rfl,rfl,y3b⟩
  ·have j1:(decide ¬(npF r.Path).2=0)=true:=by simpa using k1
   simp only [j1,if_true]
   exact ⟨_,rfl,rfl,y3b⟩
 ·rw [if_pos (by simpa using h0),if_pos (by simpa using h0)]
  exact ⟨_,rfl,rfl,y3b⟩
def flN:List Bs:=[[110,111,45,115,116,111,114,101],[110,111,45,99,97,99,104,101],[112,114,105,118,97,116,101],[112,117,98,108,105,99],[109,117,115,116,45,114,101,118,97,108,105,100,97,116,101],[111,110,108,121,45,105,102,45,99,97,99,104,101,100]]
def cnN:List Bs:=[[109,97,120,45,97,103,101],[115,45,109,97,120,97,103,101],[115,116,97,108,101,45,119,104,105,108,101,45,114,101,118,97,108,105,100,97,116,101],[115,116,97,108,101,45,105,102,45,101,114,114,111,114],[109,97,120,45,115,116,97,108,101],[109,105,110,45,102,114,101,115,104]]
theorem y27 {ns:List Bs} {nm:Bs} (h:0≤idxB ns nm):∃ j:Nat,idxB ns nm=(j:Int)∧j < ns.length∧nm∈ns:=by
 obtain ⟨_,x,h2,h3⟩:=(z6n (fun x=>decide (nm=x)) ns 0).2 h
 refine ⟨(idxB ns nm).toNat,by omega,?_,?_⟩
 ·have:=(List.getElem?_eq_some_iff.1 h2).1
  exact this
 ·have e:nm=x:=by simpa using h3
  rw [e]; exact List.mem_of_getElem? h2
theorem w3l:∀ x,x∈flN→idxB cnN x < 0:=by decide +kernel
theorem x32:∀ j:Nat,j < 6→at? ([0,1,2,3,4,5]:List Int) (j:Int)=some (j:Int)∧z90 (j:Int)=true:=by decide +kernel
theorem x4o:∀ j:Nat,j < 6→at? ([6,7,8,9,10,11]:List Int) (j:Int)=some (6+(j:Int))∧xb (6+(j:Int))=true:=by decide +kernel
def nOf (v:Bs):Int:=if okN 9 v then valB v else 0
def sOK (v:Bs):Bool:=okN 9 v && !outP (valB v) 0 100000000
theorem x0h (v:Bs) (h:v.length≤1000000):z43 v=some (nOf v,sOK v):=by
 have hk:z4k v 9=some (if okN 9 v then valB v else 0,okN 9 v):=w0f v 9 (by omega) h
 unfold z43 z8h z6t nOf sOK
 rw [hk]
 simp only [Option.bind_some]
 cases okN 9 v
 ·rfl
 ·simp only [if_true,y1t,Option.bind_some,Bool.true_and]
def numC (c:zy) (i n:Int):zy:=if vx c (6+i)=-1∨n < vx c (6+i) then xh c (6+i) n else c
def jy (c:zy) (x:Bs):Bool×zy:=
 let r:=Lib.cut x [61]
 if !tokB r.1 || (r.2.2 && !sOK r.2.1) then (false,c)
 else if 0≤idxB flN (lo r.1) then (!r.2.2,ku c (idxB flN (lo r.1)) true)
 else if idxB cnN (lo r.1) < 0 then (true,c)
 else (r.2.2,numC c (idxB cnN (lo r.1)) (nOf r.2.1))
theorem x6b (c:zy) (x:Bs) (h:x.length≤1000000):z41 c x=some (jy c x):=by
 obtain ⟨c1,c2,c3,c4⟩:=x4l x 61
 unfold z41 jy km
 rw [if_pos (by omega)]
 simp only [Option.bind_some]
 generalize Lib.cut x [61]=r at *
 rw [x0h _ (by omega),z5h _ (by omega)]
 simp only [Option.bind_some]
 cases ht:tokB r.1
 ·rfl
 simp only [Bool.not_true,Bool.false_or]
 cases hs:(r.2.2 && !sOK r.2.1)
 ·simp only [Bool.false_eq_true,if_false]
  have hlow:jo r.1=some (lo r.1):=by
   unfold jo
   rw [if_pos ⟨by omega,z3b ht⟩]
  have hf:y2p=some (flN,[0,1,2,3,4,5]):=rfl
  have hc:z8y=some (cnN,[6,7,8,9,10,11]):=rfl
  rw [hlow,hf,hc]
  simp only [Option.bind_some]
  rw [z5q flN (lo r.1) (by decide),z5q cnN (lo r.1) (by decide)]
  simp only [Option.bind_some]
  by_cases h0:0≤idxB flN (lo r.1)
  ·obtain ⟨j,j1,j2,_⟩:=y27 h0
   obtain ⟨a1,a2⟩:=x32 j j2
   rw [if_pos (by simpa using h0),if_pos h0,j1,a1]
   simp only [Option.bind_some]
   rw [if_pos a2]
  ·rw [if_neg (by simpa using h0),if_neg h0]
   by_cases h1:idxB cnN (lo r.1) < 0
   ·rw [if_pos (by simpa using h1),if_pos h1]
   ·rw [if_neg (by simpa using h1),if_neg h1]
    obtain ⟨j,j1,j2,_⟩:=y27 (show 0≤idxB cnN (lo r.1) by omega)
    obtain ⟨a1,a2⟩:=x4o j j2
    unfold z6r z6s numC
    rw [j1,a1]
    simp only [Option.bind_some,a2,if_true]
    by_cases hg:vx c (6+(j:Int))=-1
    ·rw [if_pos (by simpa using hg),if_pos (Or.inl hg)]
    ·rw [if_neg (by simpa using hg)]
     by_cases hn:nOf r.2.1 < vx c (6+(j:Int))
     ·rw [if_pos (by simpa using hn),if_pos (Or.inr hn)]
     ·rw [if_neg (by simpa using hn),if_neg (by simp [hg,hn])]
 ·simp
abbrev Tst:=Bool×Bool×Int×Int×Bool×Bool×Bool×Bool×Int×Int×Int×Int
def tc (s:Tst):zy:=zy.mk s.1 s.2.1 s.2.2.2.2.1 s.2.2.2.2.2.1 s.2.2.2.2.2.2.1 s.2.2.2.2.2.2.2.1 s.2.2.2.2.2.2.2.2.1 s.2.2.2.2.2.2.2.2.2.1 s.2.2.2.2.2.2.2.2.2.2.1 s.2.2.2.2.2.2.2.2.2.2.2 s.2.2.1 s.2.2.2.1
def ct (c:zy):Tst:=(c.NoStore,c.NoCache,c.MaxStale,c.MinFresh,c.Private,c.Public,c.Must,c.Only,c.MaxAge,c.Shared,c.Stale,c.OnError)
def cOK (c:zy):Prop:=∀ x,xb x=true→-1≤vx c x
theorem w25 (c:zy) (x y:Int) (b:Bool):vx (ku c y b) x=vx c x:=by
 unfold ku
 (repeat' split) <;> rfl
theorem w24 (c:zy) (x y n:Int):vx (xh c y n) x=n∨vx (xh c y n) x=vx c x:=by
 unfold xh
 (repeat' split) <;> unfold vx <;> (repeat' split) <;> simp
theorem w4m {c:zy} (h:cOK c) (y:Int) (b:Bool):cOK (ku c y b):=fun x hx=>by rw [w25]; exact h x hx
theorem w4l {c:zy} (h:cOK c) (y n:Int) (hn:-1≤n):cOK (xh c y n):=fun x hx=>by
 rcases w24 c x y n with e | e
 ·rw [e]; exact hn
 ·rw [e]; exact h x hx
abbrev zzT:zy×Int:=(zy.mk false false false false false false 0 0 0 0 0 0,9)
def stT (c:zy) (x:Bs):Tst ⊕ (zy×Int):=if (jy c x).1 then .inl (ct (jy c x).2) else .inr zzT
theorem y5k (k:Nat) (x:Bs) (c:zy) (h:x.length≤1000000):z0k k x c.NoStore c.NoCache c.MaxStale c.MinFresh c.Private c.Public c.Must c.Only c.MaxAge c.Shared c.Stale c.OnError=some (stT c x):=by
 unfold z0k stT
 show (z41 c x).bind _=_
 rw [x6b c x h]
 simp only [Option.bind_some]
 cases (jy c x).1 <;> rfl
theorem x8s (k:Nat) (x:Bs) (c:zy) (h:x.length≤1000000) (hc:cOK c):z6e k x c.NoStore c.NoCache c.MaxStale c.MinFresh c.Private c.Public c.Must c.Only c.MaxAge c.Shared c.Stale c.OnError=some (stT c x)∧cOK (jy c x).2:=by
 obtain ⟨c1,c2,c3,c4⟩:=x4l x 61
 have hcut0:(Lib.cut x [61]).2.2=false→okN 9 (Lib.cut x [61]).2.1=false:=fun h2=>by
  rcases z2v 61 x with h3 | ⟨p,q,h3,h4⟩
  ·rw [z9w 61 x h3]; rfl
  ·subst h3; rw [z9y 61 p q h4] at h2; cases h2
 have hd:jy c x=(let r:=Lib.cut x [61]
  if !tokB r.1 || (r.2.2 && !sOK r.2.1) then (false,c)
  else if 0≤idxB flN (lo r.1) then (!r.2.2,ku c (idxB flN (lo r.1)) true)
  else if idxB cnN (lo r.1) < 0 then (true,c)
  else (r.2.2,numC c (idxB cnN (lo r.1)) (nOf r.2.1))):=rfl
 unfold z6e stT km
 rw [if_pos (show x.length≤1000000000 by omega),hd]
 simp only [Option.bind_some]
 generalize Lib.cut x [61]=r at *
 obtain ⟨w,w1,w2,w3⟩:=x0r r.2.1 9 (by omega) (by omega)
 have w1':Zx r.2.1 9=some (w,okN 9 r.2.1):=w1
 rw [w1',y0v _ (by omega)]
 simp only [Option.bind_some]
 have hT:Yf c.NoStore c.NoCache c.MaxStale c.MinFresh c.Private c.Public c.Must c.Only c.MaxAge c.Shared c.Stale c.OnError r (w,okN 9 r.2.1) true=some (.inr zzT):=rfl
 cases ht:tokB r.1
 ·simp only [Bool.not_false,if_true,Bool.true_or,Bool.false_eq_true,if_false]
  exact ⟨hT,hc⟩
 simp only [Bool.not_true,Bool.false_eq_true,if_false,Bool.false_or]
 have hlow:jo r.1=some (lo r.1):=by
  unfold jo
  rw [if_pos ⟨by omega,z3b ht⟩]
 have hfn:y2j=some flN:=rfl
 have hfo:y2i=some [0,1,2,3,4,5]:=rfl
 have hcn:y2l=some cnN:=rfl
 have hco:z8j=some [6,7,8,9,10,11]:=rfl
 have hJ5n:∀ d:zy,idxB cnN (lo r.1) < 0→z0g r (w,okN 9 r.2.1) (lo r.1) d.NoStore d.NoCache d.Private d.Public d.Must d.Only d.MaxAge d.Shared d.Stale d.OnError d.MaxStale d.MinFresh=some (.inl (ct d)):=fun d hneg=>by
  unfold z0g z0h
  rw [hcn]
  simp only [Option.bind_some]
  rw [z5q cnN (lo r.1) (by decide)]
  simp only [Option.bind_some]
  rw [if_neg (by simp; omega)]
  rfl
 have key:r.2.2=false∨(okN 9 r.2.1=true∧outP w 0 100000000=false)→Yf c.NoStore c.NoCache c.MaxStale c.MinFresh c.Private c.Public c.Must c.Only c.MaxAge c.Shared c.Stale c.OnError r (w,okN 9 r.2.1) false=some (if (if 0≤idxB flN (lo r.1) then (!r.2.2,ku c (idxB flN (lo r.1)) true) else if idxB cnN (lo r.1) < 0 then (true,c) else (r.2.2,numC c (idxB cnN (lo r.1)) (nOf r.2.1))).1=true then .inl (ct (if 0≤idxB flN (lo r.1) then (!r.2.2,ku c (idxB flN (lo r.1)) true) else if idxB cnN (lo r.1) < 0 then (true,c) else (r.2.2,numC c (idxB cnN (lo r.1)) (nOf r.2.1))).2) else .inr zzT)∧cOK (if 0≤idxB flN (lo r.1) then (!r.2.2,ku c (idxB flN (lo r.1)) true) else if idxB cnN (lo r.1) < 0 then (true,c) else (r.2.2,numC c (idxB cnN (lo r.1)) (nOf r.2.1))).2:=fun hh=>by
  unfold Yf
  rw [hlow,hfn]
  simp only [Bool.false_eq_true,if_false,Option.bind_some]
  rw [z5q flN (lo r.1) (by decide)]
  simp only [Option.bind_some]
  by_cases h0:0≤idxB flN (lo r.1)
  ·obtain ⟨j,j1,j2,j3⟩:=y27 h0
   obtain ⟨a1,a2⟩:=x32 j j2
   have hneg:=w3l _ j3
   rw [if_pos (by simpa using h0),if_pos h0,hfo]
   simp only [Option.bind_some]
   rw [j1,a1]
   simp only [Option.bind_some]
   rw [if_pos a2]
   refine ⟨?_,w4m hc _ _⟩
   cases r.2.2
   ·simp only [Bool.false_eq_true,if_false,Bool.not_false,if_true]
    exact hJ5n (ku c (j:Int) true) hneg
   ·simp
  ·rw [if_neg (by simpa using h0),if_neg h0]
   by_cases h1:idxB cnN (lo r.1) < 0
   ·rw [if_pos h1]
    exact ⟨hJ5n c h1,hc⟩
   ·rw [if_neg h1]
    obtain ⟨j,j1,j2,_⟩:=y27 (show 0≤idxB cnN (lo r.1) by omega)
    obtain ⟨a1,a2⟩:=x4o j j2
    have hcd:∀ n,-1≤n→cOK (numC c (j:Int) n):=fun n hn=>by
     unfold numC
     split
     ·exact w4l hc _ n hn
     ·exact hc
    unfold z0g
    rw [hcn]
    simp only [Option.bind_some]
    rw [z5q cnN (lo r.1) (by decide)]
    simp only [Option.bind_some]
    rw [if_pos (by simp; omega)]
    rcases Bool.eq_false_or_eq_true r.2.2 with h2 | h2
    ·rcases hh with h3 | ⟨h3,h4⟩
     ·rw [h3] at h2; cases h2
     ·have hw:=w2 h3
      have hn:nOf r.2.1=w:=by unfold nOf; rw [h3,hw]; rfl
      have hw0:0≤w:=by rw [y1u] at h4; simp at h4; omega
      rw [h2,hco,j1,hn]
      simp only [Bool.not_true,Bool.false_eq_true,if_false,Option.bind_some,if_true]
      rw [a1]
      simp only [Option.bind_some]
      rw [if_pos a2]
      refine ⟨?_,hcd w (by omega)⟩
      have hge:=hc _ a2
      unfold numC z0h
      show (if (decide (vx c (6+(j:Int)) < 0) || decide (w < vx c (6+(j:Int))))=true then _ else _)=_
      by_cases hg:vx c (6+(j:Int))=-1∨w < vx c (6+(j:Int))
      ·rw [if_pos (by simp only [Bool.or_eq_true,decide_eq_true_eq]; omega),if_pos hg]; rfl
      ·rw [if_neg (by simp only [Bool.or_eq_true,decide_eq_true_eq]; omega),if_neg hg]; rfl
    ·rw [h2,j1]
     have hn:nOf r.2.1=0:=by unfold nOf; rw [hcut0 h2]; rfl
     rw [hn]
     exact ⟨rfl,hcd 0 (by omega)⟩
 cases h2:r.2.2
 ·rw [h2] at key
  simp only [Bool.false_and,Bool.false_eq_true,if_false]
  exact key (.inl rfl)
 ·rw [h2] at key
  simp only [if_true,Bool.true_and]
  cases h3:okN 9 r.2.1
  ·have hs:sOK r.2.1=false:=by unfold sOK; rw [h3]; rfl
   rw [h3] at hT
   rw [hs]
   simp only [Bool.not_false,if_true,Bool.false_eq_true,if_false]
   exact ⟨hT,hc⟩
  ·have hw:=w2 h3
   rw [z9n]
   simp only [Bool.not_true,Bool.false_eq_true,if_false,Option.bind_some,Bool.not_not]
   have hs:sOK r.2.1 = !outP w 0 100000000:=by unfold sOK; rw [h3,hw]; rfl
   rw [hs,Bool.not_not]
   rw [h3] at key hT
   cases h4:outP w 0 100000000
   ·simp only [Bool.false_eq_true,if_false]
    exact key (.inr ⟨rfl,h4⟩)
   ·simp only [if_true,Bool.false_eq_true,if_false]
    exact ⟨hT,hc⟩
abbrev ccL:Bs:=[99,97,99,104,101,45,99,111,110,116,114,111,108]
abbrev c0:Tst:=(false,false,-1,-1,false,false,false,false,-1,-1,-1,-1)
theorem y5j (l:List zn):Zd l=z2x l false false (-1) (-1) false false false false (-1) (-1) (-1) (-1):=rfl
theorem x8r (l:List zn):z1k l=z9u l false false (-1) (-1) false false false false (-1) (-1) (-1) (-1):=rfl
theorem w4p:cOK (tc c0):=fun x hx=>by
 unfold xb at hx
 simp only [Bool.or_eq_true,decide_eq_true_eq] at hx
 rcases hx with ((((rfl | rfl) | rfl) | rfl) | rfl) | rfl <;> decide
theorem z98 {l:List zn} (h0:hdsE l=0) (n:Bs):vlP (qt n l):=by
 have hcnt:=z9p h0
 have hok:=x3j h0
 refine ⟨?_,fun v hv => ?_⟩
 ·unfold qt
  rw [List.length_map]
  have:=(List.filter_sublist (p:=nmB n) (l:=l)).length_le
  omega
 ·unfold qt at hv
  obtain ⟨x,hx,rfl⟩:=List.mem_map.1 hv
  exact x3z (hok x (List.mem_filter.1 hx).1).2
theorem y5f (V:List Bs) (h:vlP V):(ptsB V).length≤3000000:=by
 have h1:=x0v V h.2
 have h2:=y0x (V.map (spl 44)).flatten
 have h3:V.length * 2001≤1000 * 2001:=Nat.mul_le_mul h.1 (by omega)
 unfold ptsB
 omega
theorem x9e (l:List zn) (h0:hdsE l=0) (hl:l.length≤1000) (h2:∀ x,x∈l→nmOK x):∃ r,Zd l=some r∧z1k l=some r:=by
 have hv:=Qp l ccL hl h2 ⟨rfl,by decide⟩
 have hV:=z98 h0 ccL
 have hp1:=z7o _ hV
 have hp2:=x0y _ hV
 have hpl:=y5f _ hV
 rw [y5j,x8r]
 unfold z2x z9u
 show ∃ r,(kw l ccL).bind _=some r∧(xm l ccL).bind _=some r
 rw [hv.1,hv.2]
 simp only [Option.bind_some]
 rw [hp1,hp2]
 simp only [Option.bind_some]
 rw [if_pos (by omega),if_pos (by omega)]
 obtain ⟨r,r1,r2,_⟩:=x3v (body:=fun (k:Nat) (x:Bs) (s:Tst)=>z0k k x s.1 s.2.1 s.2.2.1 s.2.2.2.1 s.2.2.2.2.1 s.2.2.2.2.2.1 s.2.2.2.2.2.2.1 s.2.2.2.2.2.2.2.1 s.2.2.2.2.2.2.2.2.1 s.2.2.2.2.2.2.2.2.2.1 s.2.2.2.2.2.2.2.2.2.2.1 s.2.2.2.2.2.2.2.2.2.2.2)
  (body':=fun (k:Nat) (x:Bs) (s:Tst)=>z6e k x s.1 s.2.1 s.2.2.1 s.2.2.2.1 s.2.2.2.2.1 s.2.2.2.2.2.1 s.2.2.2.2.2.2.1 s.2.2.2.2.2.2.2.1 s.2.2.2.2.2.2.2.2.1 s.2.2.2.2.2.2.2.2.2.1 s.2.2.2.2.2.2.2.2.2.2.1 s.2.2.2.2.2.2.2.2.2.2.2)
  (fin:=fun (s:Tst)=>y3v s.1 s.2.1 s.2.2.1 s.2.2.2.1 s.2.2.2.2.1 s.2.2.2.2.2.1 s.2.2.2.2.2.2.1 s.2.2.2.2.2.2.2.1 s.2.2.2.2.2.2.2.2.1 s.2.2.2.2.2.2.2.2.2.1 s.2.2.2.2.2.2.2.2.2.2.1 s.2.2.2.2.2.2.2.2.2.2.2)
  (fin':=fun (s:Tst)=>y3o s.1 s.2.1 s.2.2.1 s.2.2.2.1 s.2.2.2.2.1 s.2.2.2.2.2.1 s.2.2.2.2.2.2.1 s.2.2.2.2.2.2.2.1 s.2.2.2.2.2.2.2.2.1 s.2.2.2.2.2.2.2.2.2.1 s.2.2.2.2.2.2.2.2.2.2.1 s.2.2.2.2.2.2.2.2.2.2.2) (R:=fun _=>True)
  (fun _ s=>cOK (tc s)) (ptsB (qt ccL l)) 0 c0 w4p (fun j x s _ hx hs=>by
   obtain ⟨v,hv1,hv2,_⟩:=y5e (List.mem_of_getElem? hx)
   have hvl:=hV.2 v hv1
   have a:=y5k j x (tc s) (by omega)
   obtain ⟨b,b2⟩:=x8s j x (tc s) (by omega) hs
   refine ⟨stT (tc s) x,a,b,?_⟩
   unfold stT
   cases (jy (tc s) x).1
   ·exact trivial
   ·exact b2) (fun s _=>⟨_,rfl,rfl,trivial⟩)
 exact ⟨r,r1,r2⟩
theorem w0i:z8v=some true:=by
 have hcr:Zv (qc.mk 200 [zn.mk ccL [109,97,120,45,97,103,101,61,50]] [])=some 0:=by
  have h1:=(z9o [zn.mk ccL [109,97,120,45,97,103,101,61,50]] ⟨by simp,fun h hh=>by rw [List.mem_singleton.1 hh]; exact ⟨by decide,by decide⟩⟩).1
  have h2:hdsE [zn.mk ccL [109,97,120,45,97,103,101,61,50]]=0:=by decide +kernel
  rw [h2] at h1
  unfold Zv
  rw [y1t]
  simp only [Option.bind_some]
  rw [h1]
  rfl
 have hnm:∀ x,x∈[zn.mk ccL [109,97,120,45,97,103,101,61,50]]→nmOK x:=fun x hx=>by rw [List.mem_singleton.1 hx]; exact ⟨by decide +kernel,by decide⟩
 have hv:=(Qp [zn.mk ccL [109,97,120,45,97,103,101,61,50]] ccL (by simp) hnm ⟨rfl,by decide⟩).1
 have hv2:=(Qp [zn.mk ccL [109,97,120,45,97,103,101,61,50]] [118,97,114,121] (by simp) hnm ⟨rfl,by decide⟩).1
 have e1:qt ccL [zn.mk ccL [109,97,120,45,97,103,101,61,50]]=[[109,97,120,45,97,103,101,61,50]]:=by decide +kernel
 have e2:qt [118,97,114,121] [zn.mk ccL [109,97,120,45,97,103,101,61,50]]=[]:=by decide +kernel
 rw [e1] at hv
 rw [e2] at hv2
 have p1:=z7o [[109,97,120,45,97,103,101,61,50]] ⟨by simp,by simp⟩
 have p2:=z7o [] ⟨by simp,by simp⟩
 have e3:ptsB [[109,97,120,45,97,103,101,61,50]]=[[109,97,120,45,97,103,101,61,50]]:=by decide +kernel
 rw [e3] at p1
 have hpar:Zd [zn.mk ccL [109,97,120,45,97,103,101,61,50]]=some ((jy (tc c0) [109,97,120,45,97,103,101,61,50]).2,0):=by
  rw [y5j]
  unfold z2x
  show (kw _ ccL).bind _=_
  rw [hv]
  simp only [Option.bind_some]
  rw [p1]
  simp only [Option.bind_some]
  rw [if_pos (by simp)]
  have a:=y5k 0 [109,97,120,45,97,103,101,61,50] (tc c0) (by simp)
  show (z0k 0 [109,97,120,45,97,103,101,61,50] false false (-1) (-1) false false false false (-1) (-1) (-1) (-1)).bind _=_
  have a':z0k 0 [109,97,120,45,97,103,101,61,50] false false (-1) (-1) false false false false (-1) (-1) (-1) (-1)=some (stT (tc c0) [109,97,120,45,97,103,101,61,50]):=a
  rw [a']
  have e4:(jy (tc c0) [109,97,120,45,97,103,101,61,50]).1=true:=by decide +kernel
  unfold stT
  rw [e4]
  rfl
 have hvy:Zz (qc.mk 200 [zn.mk ccL [109,97,120,45,97,103,101,61,50]] [])=some ([],false,0):=by
  unfold Zz
  show (kw [zn.mk ccL [109,97,120,45,97,103,101,61,50]] [118,97,114,121]).bind _=_
  rw [hv2]
  simp only [Option.bind_some]
  rw [p2]
  have e0:ptsB []=[]:=rfl
  rw [e0]
  simp only [Option.bind_some]
  rw [if_pos (by simp)]
  show z0j []=_
  have hi:Yx [] [42]=some (-1):=rfl
  have hs:Zs []=some []:=by
   unfold Zs
   rw [if_pos (by simp)]
   simp
  unfold z0j z79 z4i uz
  rw [hi]
  simp only [Option.bind_some]
  rw [if_neg (by simp),if_pos (by simp)]
  simp only [Option.bind_some]
  rw [hs]
  rfl
 have f1:(jy (tc c0) [109,97,120,45,97,103,101,61,50]).2.NoCache=false:=by decide +kernel
 have f2:(jy (tc c0) [109,97,120,45,97,103,101,61,50]).2.Shared=-1:=by decide +kernel
 have f3:(jy (tc c0) [109,97,120,45,97,103,101,61,50]).2.MaxAge=2:=by decide +kernel
 have hlt:Wz (jy (tc c0) [109,97,120,45,97,103,101,61,50]).2=some 2000:=by
  unfold Wz
  rw [f1,f2,f3]
  rfl
 unfold z8v y2r
 rw [hcr]
 simp only [Option.bind_some]
 rw [if_neg (by simp)]
 show ((Zd [zn.mk ccL [109,97,120,45,97,103,101,61,50]]).bind _).bind _=_
 rw [hpar]
 simp only [Option.bind_some]
 rw [if_neg (by simp)]
 rw [hvy]
 simp only [Option.bind_some]
 rw [if_neg (by simp),hlt]
 rfl
theorem z95 {k:Int} {s:zt} (h:SB k s) (hk:k≤1000000) (m:Nat) (hm:m≤100) (sep:Bs) (hsep:sep.length≤10) (l:List Bs) (hl:l≠[]∧l.length≤1000) (hB:∀ x,x∈l→x.length≤100) :
  Ok (kz s (m:Int) sep l) fun r=>r.1.length≤30000∧SB (k+m) r.2:=by
 unfold kz
 refine ok_g (by omega) ?_
 rw [Int.toNat_natCast]
 refine y1v (fun j (q:List Int×Int×List Bs)=>j≤m∧SB (k+(j:Int)) (zt.mk q.1 q.2.1)∧q.2.2.length≤j∧∀ x,x∈q.2.2→x.length≤100) m 0 _ ⟨by omega,h.mono (by omega),by simp,by simp⟩ ?_ ?_
 ·rintro j ⟨c5,c6,l7⟩ _ hj ⟨h0,h1,h2,h3⟩
  simp only at h1 h2 h3 ⊢
  unfold z6g
  refine yg (xz h1 (by omega) l hl) fun r hr=>ok_g (by omega) (yw ?_)
  refine ⟨by omega,hr.2.mono (by omega),by simp; omega,fun x hx => ?_⟩
  rcases List.mem_append.1 hx with h | h
  ·exact h3 x h
  ·have:x=r.1:=by simpa using h
   rw [this]; exact hB _ hr.1
 ·rintro ⟨c5,c6,l7⟩ ⟨h0,h1,h2,h3⟩
  simp only at h1 h2 h3 ⊢
  have hj:=z5g 100 sep l7 h3
  have hmm:l7.length * (100+sep.length)≤100 * 110:=Nat.mul_le_mul (by omega) (by omega)
  unfold z6h
  have hJ:jr l7 sep=some (Lib.join l7 sep):=by
   unfold jr
   rw [if_pos ⟨by omega,by omega⟩]
  rw [hJ]
  exact yw ⟨by simp only; omega,h1.mono (by omega)⟩
theorem w39 {k:Int} {s:zt} (h:SB k s) (hk:k≤100000):Ok (z8s s) fun r=>r.1.length≤30000∧SB (k+20) r.2:=by
 have hJ:∀ (t:Bs) (c:List Int) (a:Int),t.length≤30000→SB (k+15) (zt.mk c a)→Ok (z2c t c a) fun r=>r.1.length≤30000∧SB (k+20) r.2:=by
  intro t c a ht hs
  unfold z2c z6j
  refine yg (jb hs (by omega) 20 (by omega)) fun r hr=>qz (fun _ => ?_) (fun _=>yw ⟨ht,hr.mono (by omega)⟩)
  exact yg (xi hr (by omega) 100 _ ⟨by simp,by simp⟩ (by decide)) fun r2 h2=>yw ⟨by have:=h2.1; simp only; omega,h2.2.mono (by omega)⟩
 unfold z8s
 refine yg (z3m h (by omega) 0 3 (by omega)) fun r hr => ?_
 obtain ⟨m,hm⟩:∃ m:Nat,r.1=(m:Int):=⟨r.1.toNat,by omega⟩
 rw [hm]
 refine yg (z95 hr.2 (by omega) m (by omega) [44,32] (by simp) _ ⟨by simp,by simp⟩ (by decide)) fun r2 h2=>yg (jb h2.2 (by omega) 10 (by omega)) fun r3 h3=>qz (fun _ => ?_) (fun _=>hJ _ _ _ h2.1 (h3.mono (by omega)))
 exact yg (z95 h3 (by omega) 2 (by omega) [44] (by simp) _ ⟨by simp,by simp⟩ (by decide)) fun r4 h4=>hJ _ _ _ h4.1 (h4.2.mono (by omega))
theorem x42 {k:Int} {s:zt} (h:SB k s) (hk:k≤100000):Ok (z40 s) fun r=>r.1.length≤30000∧SB (k+20) r.2:=by
 unfold z40 z6k
 refine yg (z3m h (by omega) 1 2 (by omega)) fun r hr => ?_
 obtain ⟨m,hm⟩:∃ m:Nat,r.1=(m:Int):=⟨r.1.toNat,by omega⟩
 rw [hm]
 refine yg (z95 hr.2 (by omega) m (by omega) [44,32] (by simp) _ ⟨by simp,by simp⟩ (by decide)) fun r2 h2=>yg (jb h2.2 (by omega) 20 (by omega)) fun r3 h3=>qz (fun _ => ?_) (fun _=>yw ⟨h2.1,h3.mono (by omega)⟩)
 exact yg (xi h3 (by omega) 100 _ ⟨by simp,by simp⟩ (by decide)) fun r4 h4=>yw ⟨by have:=h4.1; simp only; omega,h4.2.mono (by omega)⟩
def haP (n:Nat) (l:List zn):Prop:=l.length≤n∧∀ y,y∈l→hdA y
theorem y3c (n:Nat):haP n ([]:List zn):=⟨by simp,by simp⟩
theorem jf {n m:Nat} {l:List zn} (h:haP n l) (hm:n≤m):haP m l:=⟨by have:=h.1; omega,h.2⟩
theorem z5s {n:Nat} {l:List zn} (h:haP n l) (a b:Bs) (h1:ascB a=true∧a.length≤3000) (h2:b.length≤30000):haP (n+1) (l++[zn.mk a b]):=
 ⟨by have:=h.1; simp; omega,w22 h.2 (w23 h1 h2)⟩
theorem y62 {n:Nat} {l:List zn} (h:haP n l) (hn:n≤1000):hdsP l:=⟨by have:=h.1; omega,fun y hy=>(h.2 y hy).1⟩
def rqA (r:zz):Prop:=rqP r∧haP 100 r.Headers
theorem z61 {n:Nat} (name value:Bs) (c:qc) (h:haP n c.Headers) (hn:n≤100) (h1:ascB name=true∧name.length≤3000) (h2:value.length≤30000):Ok (Zy name value c) fun r=>haP (n+1) r.Headers:=by
 unfold Zy
 exact ok_g (by have:=h.1; omega) (yw (z5s h name value h1 h2))
theorem w4k {k:Int} {s:zt} (h:SB k s) (hk:k≤5000):Ok (z8u s) fun r=>haP 100 r.1.Headers∧SB (k+200) r.2:=by
 have hJ7:∀ (l:List zn) (b:Bs) (c:List Int) (a n:Int),haP 100 l→SB (k+200) (zt.mk c a)→Ok (z2d l b c a n) fun r=>haP 100 r.1.Headers∧SB (k+200) r.2:=by
  intro l b c a n hl hs
  unfold z2d
  exact yw ⟨hl,hs⟩
 have hJ6:∀ (c:List Int) (a:Int) (l:List zn) (n:Int) (b:Bs),haP 50 l→SB (k+180) (zt.mk c a)→Ok (z2e c a l n b) fun r=>haP 100 r.1.Headers∧SB (k+200) r.2:=by
  intro c a l n b hl hs
  unfold z2e
  refine yg (jb hs (by omega) 40 (by omega)) fun r hr=>qz (fun _ => ?_) (fun _=>hJ7 _ _ _ _ _ (jf hl (by omega)) (hr.mono (by omega)))
  exact yg (y1x hr (by omega) 100 599 (by omega)) fun r2 h2=>hJ7 _ _ _ _ _ (jf hl (by omega)) (h2.2.mono (by omega))
 have hJ5:∀ (c:List Int) (a:Int) (l:List zn) (n:Int) (b:Bs),haP 20 l→SB (k+100) (zt.mk c a)→Ok (z2f c a l n b) fun r=>haP 100 r.1.Headers∧SB (k+200) r.2:=by
  intro c a l n b hl hs
  unfold z2f
  refine yg (jb hs (by omega) 30 (by omega)) fun r hr=>qz (fun _ => ?_) (fun _=>hJ6 _ _ _ _ _ (jf hl (by omega)) (hr.mono (by omega)))
  refine yg (y09 hr (by omega) 3000 _ ⟨by simp,by simp⟩ (by decide +kernel)) fun r75 h75=>yg (z95 h75.2 (by omega) 12 (by omega) [44] (by simp) _ ⟨by simp,by simp⟩ (by decide)) fun r77 h77=>yg (xi h77.2 (by omega) 30000 _ ⟨by simp,by simp⟩ (by simp [h77.1])) fun r79 h79 => ?_
  exact yg (z61 r75.1 r79.1 (qc.mk n l b) hl (by omega) h75.1 h79.1) fun r81 h81=>hJ6 _ _ _ _ _ (jf h81 (by omega)) (h79.2.mono (by omega))
 have hJ4:∀ (c:List Int) (a:Int) (l:List zn) (n:Int) (b:Bs),haP 18 l→SB (k+90) (zt.mk c a)→Ok (z2g c a l n b) fun r=>haP 100 r.1.Headers∧SB (k+200) r.2:=by
  intro c a l n b hl hs
  unfold z2g
  refine yg (jb hs (by omega) 6 (by omega)) fun r hr=>qz (fun _ => ?_) (fun _=>hJ5 _ _ _ _ _ (jf hl (by omega)) (hr.mono (by omega)))
  exact yg (xi hr (by omega) 100 _ ⟨by simp,by simp⟩ (by decide)) fun r63 h63=>yg (z61 _ r63.1 (qc.mk n l b) hl (by omega) ⟨rfl,by simp⟩ (by have:=h63.1; omega)) fun r65 h65=>hJ5 _ _ _ _ _ (jf h65 (by omega)) (h63.2.mono (by omega))
 have hJ3:∀ (c:List Int) (a:Int) (l:List zn) (n:Int) (b:Bs),haP 16 l→SB (k+80) (zt.mk c a)→Ok (z2h c a l n b) fun r=>haP 100 r.1.Headers∧SB (k+200) r.2:=by
  intro c a l n b hl hs
  unfold z2h
  refine yg (jb hs (by omega) 4 (by omega)) fun r hr=>qz (fun _ => ?_) (fun _=>hJ4 _ _ _ _ _ (jf hl (by omega)) (hr.mono (by omega)))
  exact yg (xi hr (by omega) 100 _ ⟨by simp,by simp⟩ (by decide)) fun r51 h51=>yg (z61 _ r51.1 (qc.mk n l b) hl (by omega) ⟨rfl,by simp⟩ (by have:=h51.1; omega)) fun r53 h53=>hJ4 _ _ _ _ _ (jf h53 (by omega)) (h51.2.mono (by omega))
 have hJ2:∀ (c:List Int) (a:Int) (l:List zn) (n:Int) (b:Bs),haP 14 l→SB (k+60) (zt.mk c a)→Ok (z2i c a l n b) fun r=>haP 100 r.1.Headers∧SB (k+200) r.2:=by
  intro c a l n b hl hs
  unfold z2i
  refine yg (jb hs (by omega) 2 (by omega)) fun r hr=>qz (fun _ => ?_) (fun _=>hJ3 _ _ _ _ _ (jf hl (by omega)) (hr.mono (by omega)))
  exact yg (y09 hr (by omega) 3000 _ ⟨by simp,by simp⟩ (by decide +kernel)) fun r37 h37=>yg (xi h37.2 (by omega) 100 _ ⟨by simp,by simp⟩ (by decide)) fun r39 h39=>yg (z61 r37.1 r39.1 (qc.mk n l b) hl (by omega) h37.1 (by have:=h39.1; omega)) fun r41 h41=>hJ3 _ _ _ _ _ (jf h41 (by omega)) (h39.2.mono (by omega))
 have hJ1:∀ (c:List Int) (a:Int) (l:List zn) (n:Int) (b:Bs),haP 12 l→SB (k+50) (zt.mk c a)→Ok (z2j c a l n b) fun r=>haP 100 r.1.Headers∧SB (k+200) r.2:=by
  intro c a l n b hl hs
  unfold z2j
  refine yg (jb hs (by omega) 3 (by omega)) fun r hr=>qz (fun _ => ?_) (fun _=>hJ2 _ _ _ _ _ (jf hl (by omega)) (hr.mono (by omega)))
  exact yg (xi hr (by omega) 100 _ ⟨by simp,by simp⟩ (by decide)) fun r25 h25=>yg (z61 _ r25.1 (qc.mk n l b) hl (by omega) ⟨rfl,by simp⟩ (by have:=h25.1; omega)) fun r27 h27=>hJ2 _ _ _ _ _ (jf h27 (by omega)) (h25.2.mono (by omega))
 unfold z8u
 refine yg (y1r h (by omega) _ ⟨by simp,by simp⟩) fun r2 h2=>yg (y5a _ _ ⟨by omega,by omega,by simp⟩) fun r4 h4=>yg (xz h2.2 (by omega) _ ⟨by simp,by simp⟩) fun r6 h6=>yg (jb h6.2 (by omega) 6 (by omega)) fun r8 h8=>qz (fun _ => ?_) (fun _=>hJ1 _ _ _ _ _ (y3c 12) (h8.mono (by omega)))
 exact yg (y09 h8 (by omega) 3000 _ ⟨by simp,by simp⟩ (by decide +kernel)) fun r11 h11=>yg (w39 h11.2 (by omega)) fun r13 h13=>yg (z61 r11.1 r13.1 (qc.mk r2.1 [] r6.1) (y3c 0) (by omega) h11.1 h13.1) fun r15 h15=>hJ1 _ _ _ _ _ (jf h15 (by omega)) (h13.2.mono (by omega))
theorem w3s (a b:Int):z8w [a,b]=some (if a≠0 then a else b):=by
 unfold z8w y3p
 rw [if_pos (by simp)]
 show (z2p 0 a).bind _=_
 unfold z2p
 by_cases h:a=0
 ·rw [if_neg (by simpa using h),if_neg (by simpa using h)]
  show (z2p 1 b).bind _=_
  unfold z2p
  by_cases h2:b=0
  ·rw [if_neg (by simpa using h2),h2]; rfl
  ·rw [if_pos (by simpa using h2)]; rfl
 ·rw [if_pos (by simpa using h),if_pos h]; rfl
end Go.Proofs.YtmdllhcjefcggabGreatDoor
