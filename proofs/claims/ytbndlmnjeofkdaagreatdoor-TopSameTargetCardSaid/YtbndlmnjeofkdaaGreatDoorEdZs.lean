/- Plain: what is to be done with an entry, the program's and the document's. -/
import Derived.Test.YtbndlmnjeofkdaaGreatDoorQyZs
import Derived.Test.YtbndlmnjeofkdaaGreatDoorSrZs
namespace Go.Proofs.YtbndlmnjeofkdaaGreatDoor
set_option linter.unusedVariables false
set_option maxRecDepth 20000
def qOK (q:Bs):Prop:=(spl 38 q).length≤12∨((spl 38 q).filter fun x => !decide (x=[])).length=101
theorem y6b {k:Int} {s:zn} (h:SB k s) (hk:k≤1000000) (m:Nat) (hm:m≤1000) (sep:Bs) (hsep:sep.length≤10) (l:List Bs) (hl:l≠[]∧l.length≤1000) (hB:∀ x,x∈l→x.length≤20) :
  Ok (ke s (m:Int) sep l) fun r=>(∃ ws:List Bs,ws.length=m∧(∀ w,w∈ws→w∈l)∧r.1=Lib.join ws sep∧r.1.length≤30000)∧SB (k+m) r.2:=by
 unfold ke
 refine ok_g (by omega) ?_
 rw [Int.toNat_natCast]
 refine z5z (fun j (q:List Int×Int×List Bs)=>j≤m∧SB (k+(j:Int)) (zn.mk q.1 q.2.1)∧q.2.2.length=j∧∀ x,x∈q.2.2→x∈l) m 0 _ ⟨by omega,h.mono (by omega),by simp,by simp⟩ ?_ ?_
 ·rintro j ⟨c5,c6,l7⟩ _ hj ⟨h0,h1,h2,h3⟩
  simp only at h1 h2 h3 ⊢
  unfold z4k
  refine ya (uw h1 (by omega) l hl) fun r hr=>ok_g (by omega) (yl ?_)
  refine ⟨by omega,hr.2.mono (by omega),by simp; omega,fun x hx => ?_⟩
  rcases List.mem_append.1 hx with h | h
  ·exact h3 x h
  ·have:x=r.1:=by simpa using h
   rw [this]; exact hr.1
 ·rintro ⟨c5,c6,l7⟩ ⟨h0,h1,h2,h3⟩
  simp only at h1 h2 h3 ⊢
  have hj:=z0s 20 sep l7 fun x hx=>hB x (h3 x hx)
  have hmm:l7.length * (20+sep.length)≤1000 * 30:=Nat.mul_le_mul (by omega) (by omega)
  unfold z4l
  have hJ:vu l7 sep=some (Lib.join l7 sep):=by
   unfold vu
   rw [if_pos ⟨by omega,by omega⟩]
  rw [hJ]
  exact yl ⟨⟨l7,by omega,h3,rfl,by simp only; omega⟩,h1.mono (by omega)⟩
theorem x1o:∀ l:List Bs,(∀ x,x∈l→(38:UInt8) ∉ x)→(l.map (spl 38)).flatten=l
 | [],_=>rfl
 | x::l,h=>by
  rw [List.map_cons,List.flatten_cons,z9b 38 x (h x (by simp)),x1o l fun y hy=>h y (List.mem_cons_of_mem _ hy)]; rfl
theorem y2q (ws:List Bs) (h:∀ x,x∈ws→(38:UInt8) ∉ x) (hn:ws≠[]):spl 38 (Lib.join ws [38])=ws:=by
 rw [z9d 38 ws hn,x1o ws h]
theorem x78 {k:Int} {s:zn} (h:SB k s) (hk:k≤100000):Ok (z0h s) fun r=>(r.1.length≤30000∧qOK r.1)∧SB (k+200) r.2:=by
 unfold z0h z06
 refine ya (z2e h (by omega) 0 4 (by omega)) fun r hr => ?_
 obtain ⟨m,hm⟩:∃ m:Nat,r.1=(m:Int):=⟨r.1.toNat,by omega⟩
 rw [hm]
 refine ya (y6b hr.2 (by omega) m (by omega) [38] (by simp) _ ⟨by simp,by simp⟩ (by decide)) fun r2 h2=>ya (vy h2.2 (by omega) 12 (by omega)) fun r3 h3=>qm (fun _ => ?_) (fun _=>yl ⟨?_,?_⟩)
 ·refine ya (y6b h3 (by omega) 101 (by omega) [38] (by simp) [[120]] ⟨by simp,by simp⟩ (by decide)) fun r4 h4=>ya (uw h4.2 (by omega) _ ⟨by simp,by simp⟩) fun r5 h5=>yl ⟨?_,?_⟩
  ·obtain ⟨⟨ws,w1,w2,w3,w4⟩,_⟩:=h4
   have hx:∀ w,w∈ws→w=[120]:=fun w hw=>by simpa using w2 w hw
   have hq4:qOK r4.1:=by
    right
    rw [w3,y2q ws (fun x hx'=>by rw [hx x hx']; decide) (by rintro rfl; simp at w1)]
    have:(ws.filter fun x => !decide (x=[]))=ws:=List.filter_eq_self.2 fun w hw=>by rw [hx w hw]; rfl
    rw [this]; exact w1
   have hm:=h5.1
   simp only [List.mem_cons,List.not_mem_nil,or_false] at hm
   rcases hm with e | e | e | e | e | e <;> rw [e] <;> first | exact ⟨w4,hq4⟩ | exact ⟨by decide,.inl (by decide)⟩
  ·exact h5.2.mono (by omega)
 ·obtain ⟨⟨ws,w1,w2,w3,w4⟩,_⟩:=h2
  refine ⟨w4,.inl ?_⟩
  rw [w3]
  by_cases hn:ws=[]
  ·subst hn; decide
  ·have hno:∀ w:Bs,w∈([[97,61,49],[98,61,50],[97,61],[61,120],[61],[99],[],[97,61,37,52,49,43,37,50,66],[100,61,120,37,50,54,121],[98,61,37,99,51],[97,61,49,61,50],[97,63,98,61,47]]:List Bs)→(38:UInt8) ∉ w:=by decide
   rw [y2q ws (fun x hx=>hno x (w2 x hx)) hn,w1]; omega
 ·exact h3.mono (by omega)
theorem x8g (x:Bs):(prQ x).Name.length≤x.length∧(prQ x).Value.length≤x.length:=by
 obtain ⟨c1,c2⟩:=y5n x
 have hd:∀ s:Bs,((dec true s).getD []).length≤s.length:=fun s=>by
  cases hs:dec true s with
  | none=>simp
  | some d=>exact w3p true s.length s d (Nat.le_refl _) hs
 have h1:=hd (Lib.cut x [61]).1
 have h2:=hd (Lib.cut x [61]).2.1
 unfold prQ
 simp only
 omega
theorem y81 {s:Bs} (h:qOK s) (hl:(prs (spl 38 s)).length≤100):(prs (spl 38 s)).length≤12:=by
 unfold prs at hl ⊢
 rw [List.length_map] at hl ⊢
 rcases h with h | h
 ·exact Nat.le_trans (List.length_filter_le _ _) h
 ·exact absurd (Nat.le_trans (Nat.le_of_eq h.symm) hl) (by decide)
theorem y80 {s:Bs} (hs:s.length≤1000):∀ p,p∈prs (spl 38 s)→p.Name.length≤1000∧p.Value.length≤1000:=fun p hp=>by
 unfold prs at hp
 obtain ⟨x,hx,rfl⟩:=List.mem_map.1 hp
 have h1:=Zh 38 s x (List.mem_filter.1 hx).1
 have h2:=x8g x
 omega
def nilP (p:zj):Bool:=(p.Name == []) && ((p.Value == []) && true)
theorem y5j (l:List zj) (hl:l.length≤1000) (hp:∀ p,p∈l→p.Name.length≤1000∧p.Value.length≤1000) :
  z2y l (fun (a0:zj)=>z6j a0)=some (l.filter fun p => !nilP p) ∧
  z2y l (fun (a0:zj)=>y0a a0)=some (l.filter fun p => !nilP p):=by
 refine ⟨x1c (zj.mk [] []) l nilP (by omega) fun p _=>rfl,x1c (zj.mk [] []) l nilP (by omega) fun p h => ?_⟩
 have:=hp p h
 show y0a p=some (nilP p)
 unfold y0a nilP
 rw [if_pos (by omega)]
 rcases p with ⟨a,b⟩
 cases a <;> cases b <;> rfl
theorem w32:(fun (a0:zj) (a1:zj)=>y35 a0 a1)=fun (a0:zj) (a1:zj)=>vf a0 a1:=rfl
theorem x2f (a b:zj):∃ c,vf a b=some c:=by
 unfold vf Ww
 split
 ·exact ⟨_,rfl⟩
 ·exact ⟨_,rfl⟩
theorem x9n:(List.range 13).all (fun n=>(z6k (IntKind.wrap .u64 (n:Int))).isSome)=true:=by decide +kernel
theorem lenN (n:Nat) (h:n≤12):∃ v,z6k (IntKind.wrap .u64 (n:Int))=some v:=by
 have h2:=List.all_eq_true.1 x9n n (by simp; omega)
 exact Option.isSome_iff_exists.1 h2
theorem x61 (l:List zj) (hl:l.length≤12):∃ r:List zj,r.Perm l∧uk l (fun (a0:zj) (a1:zj)=>vf a0 a1)=some r ∧
  y3w l (fun (a0:zj) (a1:zj)=>y35 a0 a1)=some r:=by
 obtain ⟨r,r1,r2,r3⟩:=w2z (p:=fun (a0:zj) (a1:zj)=>vf a0 a1) (q:=fun (a0:zj) (a1:zj)=>vf a0 a1) (f:=fun x:zj=>x) l (by omega)
  (List.pairwise_of_forall (fun y x=>by
   obtain ⟨c,hc⟩:=x2f x y
   exact ⟨c,c,hc,hc,Iff.rfl⟩))
 have hlen:=r1.length_eq
 obtain ⟨v,hv⟩:=lenN l.length hl
 refine ⟨r,r1,?_,?_⟩
 ·unfold uk
  rw [hv]
  simp only [Option.bind_some]
  have e:z6d l 0 (l.length:Int) v (fun (a0:zj) (a1:zj)=>vf a0 a1)=some r:=x1b l r _ v hl r2 hlen
  rw [e]
  simp only [Option.bind_some]
  rw [if_pos hlen]
 ·rw [w32]
  unfold y3w
  have e:y9u l (l.length:Int) (fun (a0:zj) (a1:zj)=>vf a0 a1)=some r:=w2w l r _ (by omega) r2 hlen
  rw [e]
  simp only [Option.bind_some]
  rw [if_pos hlen]
def lwH (h:zo):zo:=zo.mk (lo h.Name) h.Value
def hnP (l:List zo):Prop:=l.length≤1000∧∀ y,y∈l→nmOK y
theorem y0t:hnP ([]:List zo):=⟨by simp,by simp⟩
theorem x2t {s:Bs} (h:ascB s=true):ascB (lo s)=true:=by
 unfold ascB at h ⊢
 rw [List.all_eq_true] at h ⊢
 intro c hc
 obtain ⟨d,hd,rfl⟩:=List.mem_map.1 hc
 have h1:=h d hd
 have h2:=y4b d
 simp only [decide_eq_true_eq] at h1 ⊢
 rw [h2]
 split <;> omega
theorem w2i {l:List zo} (hl:l.length≤1000) (h:∀ x,x∈l→nmOK x):hnP (l.map lwH):=by
 refine ⟨by rw [List.length_map]; exact hl,fun y hy => ?_⟩
 obtain ⟨x,hx,rfl⟩:=List.mem_map.1 hy
 obtain ⟨h1,h2⟩:=h x hx
 exact ⟨x2t h1,by show (Lib.toLowerA x.Name).length≤_; unfold Lib.toLowerA; rw [List.length_map]; exact h2⟩
theorem y4a {s:Bs} (h:ascB s=true∧s.length≤100000):jk s=some (lo s):=by
 unfold jk
 rw [if_pos ⟨by omega,h.1⟩]
theorem lowP {ρ:Type} (E:List zo→Option (zu×Int)):∀ (l pre:List zo),(∀ x,x∈l→nmOK x)→rng (fun (k:Nat) (s:(List zo))=>Wq k s) E l.length pre.length (pre++l)=E (pre++l.map lwH)
 | [],pre,_=>rfl
 | x::l,pre,h=>by
  have e1:(pre++x::l)[pre.length]?=some x:=by simp
  have e2:(pre++x::l).set pre.length (zo.mk (lo x.Name) x.Value)=(pre++[lwH x])++l:=by simp [lwH]
  have e3:pre.length+1=(pre++[lwH x]).length:=by simp
  have e4:Wq pre.length (pre++x::l)=some (.inl ((pre++[lwH x])++l)):=by
   unfold Wq
   rw [e1]
   simp only [Option.bind_some]
   rw [y4a (h x (by simp))]
   simp only [Option.bind_some]
   rw [e2]
  show (Wq pre.length (pre++x::l)).bind _=_
  rw [e4]
  simp only [Option.bind_some,after]
  rw [e3,lowP (ρ:=ρ) E l (pre++[lwH x]) fun y hy=>h y (List.mem_cons_of_mem _ hy)]
  simp
theorem lowR (E:List zo→Option (zu×Int)):∀ (l:List zo) (k:Nat) (q:List zo),(∀ x,x∈l→nmOK x)→q.length+l.length≤1000000→forL (fun (k:Nat) (x:zo) (s:(List zo))=>z71 k x s) E k l q=E (q++l.map lwH)
 | [],k,q,_,_=>by simp [forL]
 | x::l,k,q,h,hq=>by
  simp only [List.length_cons] at hq
  have e4:z71 k x q=some (.inl (q++[lwH x])):=by
   unfold z71
   rw [y4a (h x (by simp))]
   simp only [Option.bind_some]
   rw [if_pos (by omega)]; rfl
  show (z71 k x q).bind _=_
  rw [e4]
  simp only [Option.bind_some,after]
  rw [lowR E l (k+1) _ (fun y hy=>h y (List.mem_cons_of_mem _ hy)) (by simp; omega)]
  simp
theorem x72 (r:zu) (h:rqP r) (e1:vo r=some 0):tokB r.Method=true:=by
 obtain ⟨p1,p2,p3,p4,p5,p6⟩:=h
 obtain ⟨b,q,c1,c2,c3⟩:=y0q p2
 unfold vo uj at e1
 rw [z0u,Qd _ (by omega)] at e1
 simp only [Option.bind_some] at e1
 cases hm:momP r.At
 ·rw [hm] at e1; simp at e1
 ·cases ht:tokB r.Method
  ·rw [hm,ht] at e1; simp at e1
  ·rfl
theorem x86 (r:zu) (hr:rqP r) (hq:qOK r.Query):∃ x,kb r=some x∧y9x r=some x∧hnP x.1.Headers:=by
 obtain ⟨e,e1,e2,e3⟩:=y26 r hr
 obtain ⟨p1,p2,p3,p4,p5,p6⟩:=id hr
 unfold kb y9x
 rw [e1,e2]
 simp only [Option.bind_some]
 by_cases h0:e=0
 ·subst h0
  obtain ⟨h1,h2,hH⟩:=e3 rfl
  obtain ⟨hvp,hasc⟩:=w2p h1
  have hl:=hvp.1
  have htok:=x72 r hr e1
  obtain ⟨g,g1,g2⟩:=w2e p2
  obtain ⟨b1,b2⟩:=y3c r.Path (by omega)
  obtain ⟨c,c1,c2,c3,c4⟩:=y8z r.Query (by omega)
  rw [g1,g2,b1,b2,c1,c2]
  simp only [Option.bind_some,ne_eq,not_true_eq_false,decide_false,Bool.false_eq_true,if_false]
  by_cases k1:(npF r.Path).2=0
  ·have j1:(decide ¬(npF r.Path).2=0)=false:=by simpa using k1
   simp only [j1,Bool.false_eq_true,if_false]
   by_cases k2:c.2=0
   ·obtain ⟨c5,c6,c7⟩:=c4 k2
    have j2:(decide ¬c.2=0)=false:=by simpa using k2
    simp only [j2,Bool.false_eq_true,if_false]
    have hmem:=y80 c7
    rw [← c5] at hmem
    have hfew:c.1.length≤12:=by rw [c5]; exact y81 hq (by rw [← c5]; exact c6)
    obtain ⟨d1,d2⟩:=y5j c.1 (by omega) hmem
    rw [d1,d2]
    simp only [Option.bind_some]
    obtain ⟨s,s1,s2,s3⟩:=x61 (c.1.filter fun p => !nilP p) (by have:=List.length_filter_le (fun p => !nilP p) c.1; omega)
    rw [s2,s3]
    simp only [Option.bind_some]
    rw [if_pos s1.length_eq,if_pos s1.length_eq]
    have hsl:s.length≤12:=by rw [s1.length_eq]; have:=List.length_filter_le (fun p => !nilP p) c.1; omega
    have hsm:∀ p,p∈s→p.Name.length≤1000∧p.Value.length≤1000:=fun p hp=>hmem p (List.mem_filter.1 (s1.mem_iff.1 hp)).1
    obtain ⟨t,t1,t2⟩:=y69 s (by omega) hsm
    rw [t1,t2]
    simp only [Option.bind_some]
    by_cases k3:t.2=0
    ·have j3:(decide ¬t.2=0)=false:=by simpa using k3
     simp only [j3,Bool.false_eq_true,if_false]
     have hup:Yr r.Method=some (Lib.toUpperA r.Method):=by
      unfold Yr
      rw [if_pos ⟨by omega,Qv htok⟩]
     have hcl:ul r.Headers=some r.Headers:=by unfold ul; rw [if_pos (by omega)]
     rw [hup,hcl]
     simp only [Option.bind_some]
     have hP:=lowP (ρ:=Unit) (fun (s:(List zo))=>z54 r g (npF r.Path) t (Lib.toUpperA r.Method) s) r.Headers [] (y43 hvp)
     have hR:=lowR (fun (s:(List zo))=>x09 r g (npF r.Path) t (Lib.toUpperA r.Method) s) r.Headers 0 [] (y43 hvp) (by simp only [List.length_nil]; omega)
     rw [if_pos (by omega),if_pos (by omega),hR]
     refine ⟨_,hP,rfl,?_⟩
     exact w2i (by omega) (y43 hvp)
    ·have j3:(decide ¬t.2=0)=true:=by simpa using k3
     simp only [j3,if_true]
     exact ⟨_,rfl,rfl,y0t⟩
   ·have j2:(decide ¬c.2=0)=true:=by simpa using k2
    simp only [j2,if_true]
    exact ⟨_,rfl,rfl,y0t⟩
  ·have j1:(decide ¬(npF r.Path).2=0)=true:=by simpa using k1
   simp only [j1,if_true]
   exact ⟨_,rfl,rfl,y0t⟩
 ·rw [if_pos (by simpa using h0),if_pos (by simpa using h0)]
  exact ⟨_,rfl,rfl,y0t⟩
def flN:List Bs:=[[110,111,45,115,116,111,114,101],[110,111,45,99,97,99,104,101],[112,114,105,118,97,116,101],[112,117,98,108,105,99],[109,117,115,116,45,114,101,118,97,108,105,100,97,116,101],[111,110,108,121,45,105,102,45,99,97,99,104,101,100]]
def cnN:List Bs:=[[109,97,120,45,97,103,101],[115,45,109,97,120,97,103,101],[115,116,97,108,101,45,119,104,105,108,101,45,114,101,118,97,108,105,100,97,116,101],[115,116,97,108,101,45,105,102,45,101,114,114,111,114],[109,97,120,45,115,116,97,108,101],[109,105,110,45,102,114,101,115,104]]
theorem x00 {ns:List Bs} {nm:Bs} (h:0≤idxB ns nm):∃ j:Nat,idxB ns nm=(j:Int)∧j < ns.length∧nm∈ns:=by
 obtain ⟨_,x,h2,h3⟩:=(z4q (fun x=>decide (nm=x)) ns 0).2 h
 refine ⟨(idxB ns nm).toNat,by omega,?_,?_⟩
 ·have:=(List.getElem?_eq_some_iff.1 h2).1
  exact this
 ·have e:nm=x:=by simpa using h3
  rw [e]; exact List.mem_of_getElem? h2
theorem w3b:∀ j:Nat,j < 6→at? ([0,1,2,3,4,5]:List Int) (j:Int)=some (j:Int)∧y1l (j:Int)=true:=by decide +kernel
theorem w31:∀ j:Nat,j < 6→at? ([6,7,8,9,10,11]:List Int) (j:Int)=some (6+(j:Int))∧Yd (6+(j:Int))=true:=by decide +kernel
def nOf (v:Bs):Int:=if okN 9 v then valB v else 0
def sOK (v:Bs):Bool:=okN 9 v && !outP (valB v) 0 100000000
theorem x7f (v:Bs) (h:v.length≤1000000):z62 v=some (nOf v,sOK v):=by
 have hk:z28 v 9=some (if okN 9 v then valB v else 0,okN 9 v):=x90 v 9 (by omega) h
 unfold z62 z6l z4w nOf sOK
 rw [hk]
 simp only [Option.bind_some]
 cases okN 9 v
 ·rfl
 ·simp only [if_true,z9p,Option.bind_some,Bool.true_and]
def numC (c:yp) (i n:Int):yp:=if Qg c (6+i)=-1∨n < Qg c (6+i) then z88 c (6+i) n else c
def uv (c:yp) (x:Bs):Bool×yp:=
 let r:=Lib.cut x [61]
 if !tokB r.1 || (r.2.2 && !sOK r.2.1) then (false,c)
 else if 0≤idxB flN (lo r.1) then (!r.2.2,y2p c (idxB flN (lo r.1)) true)
 else if idxB cnN (lo r.1) < 0 then (true,c)
 else (r.2.2,numC c (idxB cnN (lo r.1)) (nOf r.2.1))
theorem x49 (c:yp) (x:Bs) (h:x.length≤1000000):z3i c x=some (uv c x):=by
 obtain ⟨c1,c2,c3,c4⟩:=w3r x 61
 unfold z3i uv km
 rw [if_pos (by omega)]
 simp only [Option.bind_some]
 generalize Lib.cut x [61]=r at *
 rw [x7f _ (by omega),Qd _ (by omega)]
 simp only [Option.bind_some]
 cases ht:tokB r.1
 ·rfl
 simp only [Bool.not_true,Bool.false_or]
 cases hs:(r.2.2 && !sOK r.2.1)
 ·simp only [Bool.false_eq_true,if_false]
  have hlow:jk r.1=some (lo r.1):=by
   unfold jk
   rw [if_pos ⟨by omega,Qv ht⟩]
  have hf:y0b=some (flN,[0,1,2,3,4,5]):=rfl
  have hc:z64=some (cnN,[6,7,8,9,10,11]):=rfl
  rw [hlow,hf,hc]
  simp only [Option.bind_some]
  rw [y41 flN (lo r.1) (by decide),y41 cnN (lo r.1) (by decide)]
  simp only [Option.bind_some]
  by_cases h0:0≤idxB flN (lo r.1)
  ·obtain ⟨j,j1,j2,_⟩:=x00 h0
   obtain ⟨a1,a2⟩:=w3b j j2
   rw [if_pos (by simpa using h0),if_pos h0,j1,a1]
   simp only [Option.bind_some]
   rw [if_pos a2]
  ·rw [if_neg (by simpa using h0),if_neg h0]
   by_cases h1:idxB cnN (lo r.1) < 0
   ·rw [if_pos (by simpa using h1),if_pos h1]
   ·rw [if_neg (by simpa using h1),if_neg h1]
    obtain ⟨j,j1,j2,_⟩:=x00 (show 0≤idxB cnN (lo r.1) by omega)
    obtain ⟨a1,a2⟩:=w31 j j2
    unfold z4u z4v numC
    rw [j1,a1]
    simp only [Option.bind_some,a2,if_true]
    by_cases hg:Qg c (6+(j:Int))=-1
    ·rw [if_pos (by simpa using hg),if_pos (Or.inl hg)]
    ·rw [if_neg (by simpa using hg)]
     by_cases hn:nOf r.2.1 < Qg c (6+(j:Int))
     ·rw [if_pos (by simpa using hn),if_pos (Or.inr hn)]
     ·rw [if_neg (by simpa using hn),if_neg (by simp [hg,hn])]
 ·simp
abbrev Tst:=Bool×Bool×Int×Int×Bool×Bool×Bool×Bool×Int×Int×Int×Int
def tc (s:Tst):yp:=yp.mk s.1 s.2.1 s.2.2.2.2.1 s.2.2.2.2.2.1 s.2.2.2.2.2.2.1 s.2.2.2.2.2.2.2.1 s.2.2.2.2.2.2.2.2.1 s.2.2.2.2.2.2.2.2.2.1 s.2.2.2.2.2.2.2.2.2.2.1 s.2.2.2.2.2.2.2.2.2.2.2 s.2.2.1 s.2.2.2.1
def ct (c:yp):Tst:=(c.NoStore,c.NoCache,c.MaxStale,c.MinFresh,c.Private,c.Public,c.Must,c.Only,c.MaxAge,c.Shared,c.Stale,c.OnError)
abbrev zzT:yp×Int:=(yp.mk false false false false false false 0 0 0 0 0 0,9)
def stT (c:yp) (x:Bs):Tst ⊕ (yp×Int):=if (uv c x).1 then .inl (ct (uv c x).2) else .inr zzT
theorem x8u (k:Nat) (x:Bs) (c:yp) (h:x.length≤1000000):z1p k x c.NoStore c.NoCache c.MaxStale c.MinFresh c.Private c.Public c.Must c.Only c.MaxAge c.Shared c.Stale c.OnError=some (stT c x):=by
 unfold z1p stT
 show (z3i c x).bind _=_
 rw [x49 c x h]
 simp only [Option.bind_some]
 cases (uv c x).1 <;> rfl
abbrev ccL:Bs:=[99,97,99,104,101,45,99,111,110,116,114,111,108]
abbrev c0:Tst:=(false,false,-1,-1,false,false,false,false,-1,-1,-1,-1)
theorem x8t (l:List zo):z3k l=z78 l false false (-1) (-1) false false false false (-1) (-1) (-1) (-1):=rfl
theorem x3z {l:List zo} (h0:hdsE l=0) (n:Bs):vlP (qn n l):=by
 have hcnt:=z32 h0
 have hok:=y0u h0
 refine ⟨?_,fun v hv => ?_⟩
 ·unfold qn
  rw [List.length_map]
  have:=(List.filter_sublist (p:=nmB n) (l:=l)).length_le
  omega
 ·unfold qn at hv
  obtain ⟨x,hx,rfl⟩:=List.mem_map.1 hv
  exact y5h (hok x (List.mem_filter.1 hx).1).2
theorem x8e (V:List Bs) (h:vlP V):(ptsB V).length≤3000000:=by
 have h1:=y83 V h.2
 have h2:=z81 (V.map (spl 44)).flatten
 have h3:V.length * 2001≤1000 * 2001:=Nat.mul_le_mul h.1 (by omega)
 unfold ptsB
 omega
theorem x93:y37=some true:=by
 have hcr:xb (ym.mk 200 [zo.mk ccL [109,97,120,45,97,103,101,61,50]] [])=some 0:=by
  have h1:=(z00 [zo.mk ccL [109,97,120,45,97,103,101,61,50]] ⟨by simp,fun h hh=>by rw [List.mem_singleton.1 hh]; exact ⟨by decide,by decide⟩⟩).1
  have h2:hdsE [zo.mk ccL [109,97,120,45,97,103,101,61,50]]=0:=by decide +kernel
  rw [h2] at h1
  unfold xb
  rw [z9p]
  simp only [Option.bind_some]
  rw [h1]
  rfl
 have hnm:∀ x,x∈[zo.mk ccL [109,97,120,45,97,103,101,61,50]]→nmOK x:=fun x hx=>by rw [List.mem_singleton.1 hx]; exact ⟨by decide +kernel,by decide⟩
 have hv:=(z44 [zo.mk ccL [109,97,120,45,97,103,101,61,50]] ccL (by simp) hnm ⟨rfl,by decide⟩).1
 have hv2:=(z44 [zo.mk ccL [109,97,120,45,97,103,101,61,50]] [118,97,114,121] (by simp) hnm ⟨rfl,by decide⟩).1
 have e1:qn ccL [zo.mk ccL [109,97,120,45,97,103,101,61,50]]=[[109,97,120,45,97,103,101,61,50]]:=by decide +kernel
 have e2:qn [118,97,114,121] [zo.mk ccL [109,97,120,45,97,103,101,61,50]]=[]:=by decide +kernel
 rw [e1] at hv
 rw [e2] at hv2
 have p1:=y3d [[109,97,120,45,97,103,101,61,50]] ⟨by simp,by simp⟩
 have p2:=y3d [] ⟨by simp,by simp⟩
 have e3:ptsB [[109,97,120,45,97,103,101,61,50]]=[[109,97,120,45,97,103,101,61,50]]:=by decide +kernel
 rw [e3] at p1
 have hpar:z3k [zo.mk ccL [109,97,120,45,97,103,101,61,50]]=some ((uv (tc c0) [109,97,120,45,97,103,101,61,50]).2,0):=by
  rw [x8t]
  unfold z78
  show (xa _ ccL).bind _=_
  rw [hv]
  simp only [Option.bind_some]
  rw [p1]
  simp only [Option.bind_some]
  rw [if_pos (by simp)]
  have a:=x8u 0 [109,97,120,45,97,103,101,61,50] (tc c0) (by simp)
  show (z1p 0 [109,97,120,45,97,103,101,61,50] false false (-1) (-1) false false false false (-1) (-1) (-1) (-1)).bind _=_
  have a':z1p 0 [109,97,120,45,97,103,101,61,50] false false (-1) (-1) false false false false (-1) (-1) (-1) (-1)=some (stT (tc c0) [109,97,120,45,97,103,101,61,50]):=a
  rw [a']
  have e4:(uv (tc c0) [109,97,120,45,97,103,101,61,50]).1=true:=by decide +kernel
  unfold stT
  rw [e4]
  rfl
 have hvy:xc (ym.mk 200 [zo.mk ccL [109,97,120,45,97,103,101,61,50]] [])=some ([],false,0):=by
  unfold xc
  show (xa [zo.mk ccL [109,97,120,45,97,103,101,61,50]] [118,97,114,121]).bind _=_
  rw [hv2]
  simp only [Option.bind_some]
  rw [p2]
  have e0:ptsB []=[]:=rfl
  rw [e0]
  simp only [Option.bind_some]
  rw [if_pos (by simp)]
  show Qj []=_
  have hi:Wx [] [42]=some (-1):=rfl
  have hs:xm []=some []:=by
   unfold xm
   rw [if_pos (by simp)]
   simp
  unfold Qj z6f z27 ul
  rw [hi]
  simp only [Option.bind_some]
  rw [if_neg (by simp),if_pos (by simp)]
  simp only [Option.bind_some]
  rw [hs]
  rfl
 have f1:(uv (tc c0) [109,97,120,45,97,103,101,61,50]).2.NoCache=false:=by decide +kernel
 have f2:(uv (tc c0) [109,97,120,45,97,103,101,61,50]).2.Shared=-1:=by decide +kernel
 have f3:(uv (tc c0) [109,97,120,45,97,103,101,61,50]).2.MaxAge=2:=by decide +kernel
 have hlt:z66 (uv (tc c0) [109,97,120,45,97,103,101,61,50]).2=some 2000:=by
  unfold z66
  rw [f1,f2,f3]
  rfl
 unfold y37 z68
 rw [hcr]
 simp only [Option.bind_some]
 rw [if_neg (by simp)]
 show ((z3k [zo.mk ccL [109,97,120,45,97,103,101,61,50]]).bind _).bind _=_
 rw [hpar]
 simp only [Option.bind_some]
 rw [if_neg (by simp)]
 rw [hvy]
 simp only [Option.bind_some]
 rw [if_neg (by simp),hlt]
 rfl
theorem z8c {k:Int} {s:zn} (h:SB k s) (hk:k≤1000000) (m:Nat) (hm:m≤100) (sep:Bs) (hsep:sep.length≤10) (l:List Bs) (hl:l≠[]∧l.length≤1000) (hB:∀ x,x∈l→x.length≤100) :
  Ok (ke s (m:Int) sep l) fun r=>r.1.length≤30000∧SB (k+m) r.2:=by
 unfold ke
 refine ok_g (by omega) ?_
 rw [Int.toNat_natCast]
 refine z5z (fun j (q:List Int×Int×List Bs)=>j≤m∧SB (k+(j:Int)) (zn.mk q.1 q.2.1)∧q.2.2.length≤j∧∀ x,x∈q.2.2→x.length≤100) m 0 _ ⟨by omega,h.mono (by omega),by simp,by simp⟩ ?_ ?_
 ·rintro j ⟨c5,c6,l7⟩ _ hj ⟨h0,h1,h2,h3⟩
  simp only at h1 h2 h3 ⊢
  unfold z4k
  refine ya (uw h1 (by omega) l hl) fun r hr=>ok_g (by omega) (yl ?_)
  refine ⟨by omega,hr.2.mono (by omega),by simp; omega,fun x hx => ?_⟩
  rcases List.mem_append.1 hx with h | h
  ·exact h3 x h
  ·have:x=r.1:=by simpa using h
   rw [this]; exact hB _ hr.1
 ·rintro ⟨c5,c6,l7⟩ ⟨h0,h1,h2,h3⟩
  simp only at h1 h2 h3 ⊢
  have hj:=z0s 100 sep l7 h3
  have hmm:l7.length * (100+sep.length)≤100 * 110:=Nat.mul_le_mul (by omega) (by omega)
  unfold z4l
  have hJ:vu l7 sep=some (Lib.join l7 sep):=by
   unfold vu
   rw [if_pos ⟨by omega,by omega⟩]
  rw [hJ]
  exact yl ⟨by simp only; omega,h1.mono (by omega)⟩
theorem w3t {k:Int} {s:zn} (h:SB k s) (hk:k≤100000):Ok (z6y s) fun r=>r.1.length≤30000∧SB (k+20) r.2:=by
 have hJ:∀ (t:Bs) (c:List Int) (a:Int),t.length≤30000→SB (k+15) (zn.mk c a)→Ok (z08 t c a) fun r=>r.1.length≤30000∧SB (k+20) r.2:=by
  intro t c a ht hs
  unfold z08 z4n
  refine ya (vy hs (by omega) 20 (by omega)) fun r hr=>qm (fun _ => ?_) (fun _=>yl ⟨ht,hr.mono (by omega)⟩)
  exact ya (uh hr (by omega) 100 _ ⟨by simp,by simp⟩ (by decide)) fun r2 h2=>yl ⟨by have:=h2.1; simp only; omega,h2.2.mono (by omega)⟩
 unfold z6y
 refine ya (z2e h (by omega) 0 3 (by omega)) fun r hr => ?_
 obtain ⟨m,hm⟩:∃ m:Nat,r.1=(m:Int):=⟨r.1.toNat,by omega⟩
 rw [hm]
 refine ya (z8c hr.2 (by omega) m (by omega) [44,32] (by simp) _ ⟨by simp,by simp⟩ (by decide)) fun r2 h2=>ya (vy h2.2 (by omega) 10 (by omega)) fun r3 h3=>qm (fun _ => ?_) (fun _=>hJ _ _ _ h2.1 (h3.mono (by omega)))
 exact ya (z8c h3 (by omega) 2 (by omega) [44] (by simp) _ ⟨by simp,by simp⟩ (by decide)) fun r4 h4=>hJ _ _ _ h4.1 (h4.2.mono (by omega))
theorem w4l {k:Int} {s:zn} (h:SB k s) (hk:k≤100000):Ok (z61 s) fun r=>r.1.length≤30000∧SB (k+20) r.2:=by
 unfold z61 z4o
 refine ya (z2e h (by omega) 1 2 (by omega)) fun r hr => ?_
 obtain ⟨m,hm⟩:∃ m:Nat,r.1=(m:Int):=⟨r.1.toNat,by omega⟩
 rw [hm]
 refine ya (z8c hr.2 (by omega) m (by omega) [44,32] (by simp) _ ⟨by simp,by simp⟩ (by decide)) fun r2 h2=>ya (vy h2.2 (by omega) 20 (by omega)) fun r3 h3=>qm (fun _ => ?_) (fun _=>yl ⟨h2.1,h3.mono (by omega)⟩)
 exact ya (uh h3 (by omega) 100 _ ⟨by simp,by simp⟩ (by decide)) fun r4 h4=>yl ⟨by have:=h4.1; simp only; omega,h4.2.mono (by omega)⟩
def haP (n:Nat) (l:List zo):Prop:=l.length≤n∧∀ y,y∈l→hdA y
theorem z33 (n:Nat):haP n ([]:List zo):=⟨by simp,by simp⟩
theorem vx {n m:Nat} {l:List zo} (h:haP n l) (hm:n≤m):haP m l:=⟨by have:=h.1; omega,h.2⟩
theorem z7u {n:Nat} {l:List zo} (h:haP n l) (a b:Bs) (h1:ascB a=true∧a.length≤3000) (h2:b.length≤30000):haP (n+1) (l++[zo.mk a b]):=
 ⟨by have:=h.1; simp; omega,w2m h.2 (w2n h1 h2)⟩
theorem y0w {n:Nat} {l:List zo} (h:haP n l) (hn:n≤1000):hdsP l:=⟨by have:=h.1; omega,fun y hy=>(h.2 y hy).1⟩
def rqA (r:zu):Prop:=rqP r∧haP 100 r.Headers
theorem z41 {n:Nat} (name value:Bs) (c:ym) (h:haP n c.Headers) (hn:n≤100) (h1:ascB name=true∧name.length≤3000) (h2:value.length≤30000):Ok (xp name value c) fun r=>haP (n+1) r.Headers:=by
 unfold xp
 exact ok_g (by have:=h.1; omega) (yl (z7u h name value h1 h2))
theorem w39 {k:Int} {s:zn} (h:SB k s) (hk:k≤5000):Ok (z60 s) fun r=>haP 100 r.1.Headers∧SB (k+200) r.2:=by
 have hJ7:∀ (l:List zo) (b:Bs) (c:List Int) (a n:Int),haP 100 l→SB (k+200) (zn.mk c a)→Ok (z09 l b c a n) fun r=>haP 100 r.1.Headers∧SB (k+200) r.2:=by
  intro l b c a n hl hs
  unfold z09
  exact yl ⟨hl,hs⟩
 have hJ6:∀ (c:List Int) (a:Int) (l:List zo) (n:Int) (b:Bs),haP 50 l→SB (k+180) (zn.mk c a)→Ok (z1a c a l n b) fun r=>haP 100 r.1.Headers∧SB (k+200) r.2:=by
  intro c a l n b hl hs
  unfold z1a
  refine ya (vy hs (by omega) 40 (by omega)) fun r hr=>qm (fun _ => ?_) (fun _=>hJ7 _ _ _ _ _ (vx hl (by omega)) (hr.mono (by omega)))
  exact ya (y3k hr (by omega) 100 599 (by omega)) fun r2 h2=>hJ7 _ _ _ _ _ (vx hl (by omega)) (h2.2.mono (by omega))
 have hJ5:∀ (c:List Int) (a:Int) (l:List zo) (n:Int) (b:Bs),haP 20 l→SB (k+100) (zn.mk c a)→Ok (z1b c a l n b) fun r=>haP 100 r.1.Headers∧SB (k+200) r.2:=by
  intro c a l n b hl hs
  unfold z1b
  refine ya (vy hs (by omega) 30 (by omega)) fun r hr=>qm (fun _ => ?_) (fun _=>hJ6 _ _ _ _ _ (vx hl (by omega)) (hr.mono (by omega)))
  refine ya (z9e hr (by omega) 3000 _ ⟨by simp,by simp⟩ (by decide +kernel)) fun r75 h75=>ya (z8c h75.2 (by omega) 12 (by omega) [44] (by simp) _ ⟨by simp,by simp⟩ (by decide)) fun r77 h77=>ya (uh h77.2 (by omega) 30000 _ ⟨by simp,by simp⟩ (by simp [h77.1])) fun r79 h79 => ?_
  exact ya (z41 r75.1 r79.1 (ym.mk n l b) hl (by omega) h75.1 h79.1) fun r81 h81=>hJ6 _ _ _ _ _ (vx h81 (by omega)) (h79.2.mono (by omega))
 have hJ4:∀ (c:List Int) (a:Int) (l:List zo) (n:Int) (b:Bs),haP 18 l→SB (k+90) (zn.mk c a)→Ok (z1c c a l n b) fun r=>haP 100 r.1.Headers∧SB (k+200) r.2:=by
  intro c a l n b hl hs
  unfold z1c
  refine ya (vy hs (by omega) 6 (by omega)) fun r hr=>qm (fun _ => ?_) (fun _=>hJ5 _ _ _ _ _ (vx hl (by omega)) (hr.mono (by omega)))
  exact ya (uh hr (by omega) 100 _ ⟨by simp,by simp⟩ (by decide)) fun r63 h63=>ya (z41 _ r63.1 (ym.mk n l b) hl (by omega) ⟨rfl,by simp⟩ (by have:=h63.1; omega)) fun r65 h65=>hJ5 _ _ _ _ _ (vx h65 (by omega)) (h63.2.mono (by omega))
 have hJ3:∀ (c:List Int) (a:Int) (l:List zo) (n:Int) (b:Bs),haP 16 l→SB (k+80) (zn.mk c a)→Ok (z1d c a l n b) fun r=>haP 100 r.1.Headers∧SB (k+200) r.2:=by
  intro c a l n b hl hs
  unfold z1d
  refine ya (vy hs (by omega) 4 (by omega)) fun r hr=>qm (fun _ => ?_) (fun _=>hJ4 _ _ _ _ _ (vx hl (by omega)) (hr.mono (by omega)))
  exact ya (uh hr (by omega) 100 _ ⟨by simp,by simp⟩ (by decide)) fun r51 h51=>ya (z41 _ r51.1 (ym.mk n l b) hl (by omega) ⟨rfl,by simp⟩ (by have:=h51.1; omega)) fun r53 h53=>hJ4 _ _ _ _ _ (vx h53 (by omega)) (h51.2.mono (by omega))
 have hJ2:∀ (c:List Int) (a:Int) (l:List zo) (n:Int) (b:Bs),haP 14 l→SB (k+60) (zn.mk c a)→Ok (z1e c a l n b) fun r=>haP 100 r.1.Headers∧SB (k+200) r.2:=by
  intro c a l n b hl hs
  unfold z1e
  refine ya (vy hs (by omega) 2 (by omega)) fun r hr=>qm (fun _ => ?_) (fun _=>hJ3 _ _ _ _ _ (vx hl (by omega)) (hr.mono (by omega)))
  exact ya (z9e hr (by omega) 3000 _ ⟨by simp,by simp⟩ (by decide +kernel)) fun r37 h37=>ya (uh h37.2 (by omega) 100 _ ⟨by simp,by simp⟩ (by decide)) fun r39 h39=>ya (z41 r37.1 r39.1 (ym.mk n l b) hl (by omega) h37.1 (by have:=h39.1; omega)) fun r41 h41=>hJ3 _ _ _ _ _ (vx h41 (by omega)) (h39.2.mono (by omega))
 have hJ1:∀ (c:List Int) (a:Int) (l:List zo) (n:Int) (b:Bs),haP 12 l→SB (k+50) (zn.mk c a)→Ok (z1f c a l n b) fun r=>haP 100 r.1.Headers∧SB (k+200) r.2:=by
  intro c a l n b hl hs
  unfold z1f
  refine ya (vy hs (by omega) 3 (by omega)) fun r hr=>qm (fun _ => ?_) (fun _=>hJ2 _ _ _ _ _ (vx hl (by omega)) (hr.mono (by omega)))
  exact ya (uh hr (by omega) 100 _ ⟨by simp,by simp⟩ (by decide)) fun r25 h25=>ya (z41 _ r25.1 (ym.mk n l b) hl (by omega) ⟨rfl,by simp⟩ (by have:=h25.1; omega)) fun r27 h27=>hJ2 _ _ _ _ _ (vx h27 (by omega)) (h25.2.mono (by omega))
 unfold z60
 refine ya (y3b h (by omega) _ ⟨by simp,by simp⟩) fun r2 h2=>ya (y27 _ _ ⟨by omega,by omega,by simp⟩) fun r4 h4=>ya (uw h2.2 (by omega) _ ⟨by simp,by simp⟩) fun r6 h6=>ya (vy h6.2 (by omega) 6 (by omega)) fun r8 h8=>qm (fun _ => ?_) (fun _=>hJ1 _ _ _ _ _ (z33 12) (h8.mono (by omega)))
 exact ya (z9e h8 (by omega) 3000 _ ⟨by simp,by simp⟩ (by decide +kernel)) fun r11 h11=>ya (w3t h11.2 (by omega)) fun r13 h13=>ya (z41 r11.1 r13.1 (ym.mk r2.1 [] r6.1) (z33 0) (by omega) h11.1 h13.1) fun r15 h15=>hJ1 _ _ _ _ _ (vx h15 (by omega)) (h13.2.mono (by omega))
theorem y5f {α:Type} {body:Nat→α→Unit→Option (Unit ⊕ Int)} {fin:Unit→Option Int} {e:Nat→α→Int}:∀ (l:List α) (k:Nat),(∀ j x,k≤j→l[j - k]?=some x→body j x ()=if e j x≠0 then some (.inr (e j x)) else some (.inl ()))→forL body fin k l ()=if feI e k l≠0 then some (feI e k l) else fin ()
 | [],k,h=>by simp [forL,feI]
 | x::l,k,h=>by
  have h1:=h k x (Nat.le_refl _) (by simp)
  show (body k x ()).bind _=_
  rw [h1]
  by_cases hp:e k x≠0
  ·simp [feI,hp,after]
  ·simp only [feI,hp,if_false,Option.bind_some,after]
   refine y5f l (k+1) fun j y hj hy=>h j y (by omega) ?_
   obtain ⟨m,hm⟩:∃ m,j - k=m+1:=⟨j - k - 1,by omega⟩
   rw [hm,List.getElem?_cons_succ]
   have:j - (k+1)=m:=by omega
   rw [this] at hy; exact hy
theorem x20 {α:Type} {p:Nat→α→Bool}:∀ (l:List α) (k:Nat),allI p k l=true↔∀ j x,l[j]?=some x→p (k+j) x=true
 | [],k=>by simp [allI]
 | x::l,k=>by
  simp only [allI,Bool.and_eq_true,x20 l (k+1)]
  constructor
  ·rintro ⟨h1,h2⟩ j y hj
   cases j with
   | zero=>simp at hj; subst hj; exact h1
   | succ j=>have:=h2 j y (by simpa using hj); rwa [show k+1+j=k+(j+1) by omega] at this
  ·intro h
   refine ⟨h 0 x rfl,fun j y hj => ?_⟩
   have:=h (j+1) y (by simpa using hj)
   rwa [show k+(j+1)=k+1+j by omega] at this
theorem eqY (a b:List Bs) (h:a.length≤1000000000):z2x a b=some (decide (a=b)):=by
 unfold z2x
 by_cases hl:a.length=b.length
 ·rw [if_neg (by simp [hl]),if_pos h,z1l (p:=fun k x=>decide (b[k]?=some x)) (e:=true) (r0:=false) rfl a 0 fun j x _ hx => ?_]
  ·have:allI (fun k x=>decide (b[k]?=some x)) 0 a=decide (a=b):=by
    rw [Bool.eq_iff_iff,x20]
    simp only [Nat.zero_add,decide_eq_true_eq]
    constructor
    ·intro h
     apply List.ext_getElem?
     intro j
     cases hj:a[j]? with
     | some x=>rw [h j x hj]
     | none=>rw [List.getElem?_eq_none_iff] at hj; rw [eq_comm,List.getElem?_eq_none_iff]; omega
    ·rintro rfl j x hj; exact hj
   rw [this]
   cases decide (a=b) <;> rfl
  ·have hx:a[j]?=some x:=by simpa using hx
   have hj:=z0n hx
   obtain ⟨y,hy⟩:∃ y,b[j]?=some y:=⟨_,List.getElem?_eq_getElem (by omega)⟩
   unfold z9g
   rw [hy]
   simp only [Option.bind_some]
   by_cases hxy:x=y
   ·simp [hxy]
   ·have:¬ y=x:=fun e=>hxy e.symm
    simp [hxy,this]
 ·have:¬ a=b:=fun e=>hl (by rw [e])
  rw [if_pos (by simp; omega)]
  simp [this]
def vyN:Bs:=[118,97,114,121]
def vyL (P:List Bs):List Bs×Bool×Int:=if P.all tokB then (if P.any (fun x=>decide (x=[42])) then ([],true,0) else if 10 < ((setB (P.map lo)).length:Int) then ([],false,2) else (setB (P.map lo),false,0)) else ([],false,9)
theorem y9y {x:Bs} (h:tokB x=true):jk x=some (lo x):=y4a ⟨Qv h,by have:=z8z h; omega⟩
theorem x9i (x:Bs):decide (([42]:Bs)=lo x)=decide (x=[42]):=by
 rw [decide_eq_decide]
 constructor
 ·intro h
  unfold lo Lib.toLowerA at h
  cases x with
  | nil=>simp at h
  | cons c t =>
   simp only [List.map_cons,List.cons.injEq] at h
   obtain ⟨h1,h2⟩:=h
   have:=wh (fun c => !(Lib.lowerB c == 42) || c == 42) (by decide +kernel) c
   rw [← h1] at this
   have h3:c=42:=by simpa using this
   have h4:t=[]:=by simpa using h2.symm
   rw [h3,h4]
 ·rintro rfl; decide +kernel
theorem vyP:∀ (l pre:List Bs),(∀ x,x∈l→x.length≤2000)→rng (fun (k:Nat) (s:(List Bs))=>z1o k s) (fun (s:(List Bs))=>Qj s) l.length pre.length (pre++l)=if l.all tokB then Qj (pre++l.map lo) else some ([],false,9)
 | [],pre,_=>by simp [rng]
 | x::l,pre,h=>by
  have e1:(pre++x::l)[pre.length]?=some x:=by simp
  have e3:pre.length+1=(pre++[lo x]).length:=by simp
  have hst:z1o pre.length (pre++x::l)=if tokB x then some (.inl ((pre++[lo x])++l)) else some (.inr ([],false,9)):=by
   have e2:(pre++x::l).set pre.length (lo x)=(pre++[lo x])++l:=by simp
   unfold z1o
   rw [e1]
   simp only [Option.bind_some]
   rw [Qd x (by have:=h x (by simp); omega)]
   simp only [Option.bind_some]
   cases ht:tokB x
   ·rfl
   ·rw [if_neg (by simp),y9y ht]
    simp only [Option.bind_some]
    rw [e2]; rfl
  show (z1o pre.length (pre++x::l)).bind _=_
  rw [hst]
  cases ht:tokB x
  ·simp [ht,after]
  ·simp only [if_true,Option.bind_some,after]
   rw [e3,vyP l (pre++[lo x]) fun y hy=>h y (List.mem_cons_of_mem _ hy)]
   simp [ht]
theorem vyR:∀ (l:List Bs) (k:Nat) (b:Bool) (q:List Bs),(∀ x,x∈l→x.length≤2000)→q.length+l.length≤10000000→forL (fun (k:Nat) (x:Bs) (s:Bool×(List Bs))=>z02 k x s.1 s.2) (fun (s:Bool×(List Bs))=>z36 s.1 s.2) k l (b,q)=if l.all tokB then z36 (b || l.any fun x=>decide (x=[42])) (q++l.map lo) else some ([],false,9)
 | [],k,b,q,_,_=>by simp [forL]
 | x::l,k,b,q,h,hq=>by
  simp only [List.length_cons] at hq
  have hst:z02 k x b q=if tokB x then some (.inl (b || decide (x=[42]),q++[lo x])) else some (.inr ([],false,9)):=by
   unfold z02
   rw [y2d x (by have:=h x (by simp); omega)]
   simp only [Option.bind_some]
   cases ht:tokB x
   ·rfl
   ·rw [if_neg (by simp),y9y ht]
    simp only [Option.bind_some]
    rw [if_pos (by omega)]; rfl
  show (z02 k x b q).bind _=_
  rw [hst]
  cases ht:tokB x
  ·simp [ht,after]
  ·simp only [if_true,Option.bind_some,after]
   rw [vyR l (k+1) (b || decide (x=[42])) (q++[lo x]) (fun y hy=>h y (List.mem_cons_of_mem _ hy)) (by simp; omega)]
   simp [ht,Bool.or_assoc]
theorem y8c (l:List Bs) (h:l.length≤10000000) {β:Type} (f:List Bs→Option β):((xm l).bind fun r=>(Wy r).bind fun r2=>f r2)=f (setB l):=by
 unfold xm Wy
 rw [if_pos (by omega)]
 simp only [Option.bind_some]
 rw [if_pos (by simp; omega)]
 rfl
theorem x2v:∀ l:List Bs,(l.map lo).any (fun x=>decide (([42]:Bs)=x))=l.any fun x=>decide (x=[42])
 | []=>rfl
 | x::l=>by rw [List.map_cons,List.any_cons,List.any_cons,x9i,x2v l]
theorem y6l (a:ym) (h0:hdsE a.Headers=0) (h2:∀ x,x∈a.Headers→nmOK x):xc a=some (vyL (ptsB (qn vyN a.Headers)))∧z6p a=some (vyL (ptsB (qn vyN a.Headers))):=by
 have hl:=z32 h0
 have hv:=z44 a.Headers vyN (by omega) h2 ⟨rfl,by decide⟩
 have hV:=x3z h0 vyN
 have hp1:=y3d _ hV
 have hp2:=x8p _ hV
 have hpl:=x8e _ hV
 have hm:∀ x,x∈ptsB (qn vyN a.Headers)→x.length≤2000:=fun x hx=>by
  obtain ⟨v,hv1,hv2,_⟩:=x8d hx
  have:=hV.2 v hv1
  omega
 unfold xc z6p
 show (xa a.Headers vyN).bind _=_∧(Yz a.Headers vyN).bind _=_
 rw [hv.1,hv.2]
 simp only [Option.bind_some]
 rw [hp1,hp2]
 simp only [Option.bind_some]
 generalize ptsB (qn vyN a.Headers)=P at *
 rw [if_pos (by omega),if_pos (by omega)]
 have a1:=vyP P [] hm
 have a2:=vyR P 0 false [] hm (by simp; omega)
 simp only [List.length_nil,List.nil_append,Bool.false_or] at a1 a2
 rw [a1,a2]
 unfold vyL
 cases P.all tokB
 ·simp
 ·simp only [if_true]
  have hi:=y41 (P.map lo) [42] (by simp; omega)
  have hk:z27 (P.map lo)=some (setB (P.map lo)):=by
   unfold z27 ul
   rw [if_pos (by simp; omega)]
   simp only [Option.bind_some]
   exact y8c (P.map lo) (by simp; omega) fun r=>some r
  unfold Qj z36 z6f
  rw [hi,hk]
  simp only [Option.bind_some]
  have hd:decide (0≤idxB (P.map lo) [42])=P.any fun x=>decide (x=[42]):=by
   unfold idxB
   rw [y5i,x2v]
  rw [hd]
  cases P.any fun x=>decide (x=[42])
  ·simp only [Bool.false_eq_true,if_false]
   rw [y8c (P.map lo) (by simp; omega) fun r15=>if decide (10 < (r15.length:Int)) then (some ([],false,2)) else (some (r15,false,0))]
   by_cases h10:10 < ((setB (P.map lo)).length:Int)
   ·rw [if_pos (by simpa using h10),if_pos h10]; exact ⟨rfl,rfl⟩
   ·rw [if_neg (by simpa using h10),if_neg h10]; exact ⟨rfl,rfl⟩
  ·exact ⟨rfl,rfl⟩
theorem x3t {P:List Bs} {n:Bs} (h:n∈(vyL P).1):ascB n=true∧n.length≤100000:=by
 unfold vyL at h
 by_cases hP:P.all tokB=true
 ·rw [if_pos hP] at h
  have key:n∈setB (P.map lo):=by
   split at h
   ·simp at h
   ·split at h
    ·simp at h
    ·exact h
  rw [x7b] at key
  obtain ⟨x,hx,rfl⟩:=List.mem_map.1 key
  have ht:=List.all_eq_true.1 hP x hx
  have:=z8z ht
  exact ⟨x2t (Qv ht),by unfold lo Lib.toLowerA; rw [List.length_map]; omega⟩
 ·rw [if_neg hP] at h; simp at h
theorem x3u {P:List Bs}:(vyL P).1.length≤10:=by
 unfold vyL
 split
 ·split
  ·simp
  ·split
   ·simp
   ·show (setB (P.map lo)).length≤10
    omega
 ·simp
def suB (V:List Bs×Bool×Int) (a b:zu):Bool:=
 if (decide (a.Host≠b.Host) || decide (a.Path≠b.Path) || decide (a.Query≠b.Query)) || (decide (a.Method≠b.Method) && !(decide (a.Method=[71,69,84]) && decide (b.Method=[72,69,65,68]))) then false
 else if V.2.1 then false else !(V.1.any fun n => !decide (qn n a.Headers=qn n b.Headers))
theorem x1v {a b:zu} (ha:hnP a.Headers) (hb:hnP b.Headers) (n:Bs) (hn:ascB n=true∧n.length≤100000) :
  z0l n a b=some (!decide (qn n a.Headers=qn n b.Headers))∧z97 n a b=some (!decide (qn n a.Headers=qn n b.Headers)):=by
 have h1:=z44 a.Headers n ha.1 ha.2 hn
 have h2:=z44 b.Headers n hb.1 hb.2 hn
 have hl:(qn n a.Headers).length≤1000:=by unfold qn; rw [List.length_map]; have:=List.length_filter_le (nmB n) a.Headers; have:=ha.1; omega
 unfold z0l z97
 rw [h1.1,h1.2,h2.1,h2.2]
 simp only [Option.bind_some]
 rw [eqY _ _ (by omega)]
 exact ⟨rfl,rfl⟩
theorem x5r {a b:zu} (ha:hnP a.Headers) (hb:hnP b.Headers) (r:ym) (V:List Bs×Bool×Int) (h1:xc r=some V) (h0:V.2.2=0) (hV:V.1.length≤10∧∀ n,n∈V.1→ascB n=true∧n.length≤100000) :
  z3j a r b=some (suB V a b)∧(if ((((V.2.1 || (decide (a.Host≠b.Host))) || (decide (a.Path≠b.Path))) || (decide (a.Query≠b.Query))) || ((decide (a.Method≠b.Method)) && ((decide (a.Method≠[71,69,84])) || (decide (b.Method≠[72,69,65,68]))))) then (some (false,(0:Int))) else ((z2z V.1 (fun (a0:Bs)=>z97 a0 a b)).bind fun (r12:(Bool))=>some (!r12,(0:Int))))=some (suB V a b,0):=by
 have c1:z2z V.1 (fun (a0:Bs)=>z0l a0 a b)=some (V.1.any fun n => !decide (qn n a.Headers=qn n b.Headers)):=
  x1d V.1 (fun n => !decide (qn n a.Headers=qn n b.Headers)) (by omega) fun n hn=>(x1v ha hb n (hV.2 n hn)).1
 have c2:z2z V.1 (fun (a0:Bs)=>z97 a0 a b)=some (V.1.any fun n => !decide (qn n a.Headers=qn n b.Headers)):=
  x1d V.1 (fun n => !decide (qn n a.Headers=qn n b.Headers)) (by omega) fun n hn=>(x1v ha hb n (hV.2 n hn)).2
 unfold z3j suB
 rw [h1,c2]
 simp only [Option.bind_some]
 rw [c1]
 simp only [Option.bind_some,h0]
 generalize (V.1.any fun n => !decide (qn n a.Headers=qn n b.Headers))=z
 generalize V.2.1=y
 have e1:(decide (a.Method≠[71,69,84]) || decide (b.Method≠[72,69,65,68])) = !(decide (a.Method=[71,69,84]) && decide (b.Method=[72,69,65,68])):=by
  simp only [ne_eq,decide_not,Bool.not_and]
 rw [e1]
 generalize decide (a.Host≠b.Host)=x1
 generalize decide (a.Path≠b.Path)=x2
 generalize decide (a.Query≠b.Query)=x3
 generalize (decide (a.Method≠b.Method) && !(decide (a.Method=[71,69,84]) && decide (b.Method=[72,69,65,68])))=x4
 cases x1 <;> cases x2 <;> cases x3 <;> cases x4 <;> cases y <;> cases z <;> exact ⟨rfl,rfl⟩
def agN:Bs:=[97,103,101]
def agV (e:qo):Int:=match (qn agN e.Response.Headers)[0]? with | some x=>if sOK x then nOf x else 0 | none=>0
def enP (e:qo):Prop:=(rqA e.Request∧qOK e.Request.Query)∧haP 100 e.Response.Headers∧e.Tags.length≤100∧∀ t,t∈e.Tags→t.length≤1000
theorem y0v {n:Nat} {l:List zo} (h:haP n l):∀ x,x∈l→nmOK x:=fun x hx=>(h.2 x hx).2
theorem y8v (r:ym) (h:hdsP r.Headers):∃ e,xb r=some e∧z3e r=some e∧(e=0→hdsE r.Headers=0):=by
 obtain ⟨e,e1,e2⟩:=x70 r h
 refine ⟨e,e1,e2,fun h0 => ?_⟩
 subst h0
 have hh:=z00 r.Headers h
 unfold xb at e1
 rw [z9p,hh.1] at e1
 simp only [Option.bind_some] at e1
 by_cases h0:hdsE r.Headers=0
 ·exact h0
 ·split at e1
  ·simp at e1
  ·rw [if_pos (by simpa using h0)] at e1
   exact absurd (Option.some.inj e1) h0
def tgE (l:List Bs) (k:Nat) (x:Bs):Int:=if keyP x then (match (if 0 < k then l[k - 1]? else none) with | some y=>if Op.bytesLess x y || x == y then 7 else 0 | none=>0) else 5
theorem y7b (l:List Bs) (h:∀ t,t∈l→t.length≤1000) (e:qo) (he:e.Tags=l) (j:Nat) (x:Bs) (hx:l[j]?=some x) :
  z3n l j x=(if tgE l j x≠0 then some (.inr (tgE l j x)) else some (.inl ()))∧z4g e j x=(if tgE l j x≠0 then some (.inr (tgE l j x)) else some (.inl ())):=by
 have hxl:=h x (List.mem_of_getElem? hx)
 unfold z3n z4g z3o z4h tgE
 rw [w12 x (by omega),x92 x (by omega),he]
 simp only [Option.bind_some]
 cases keyP x
 ·simp
 ·cases j with
  | zero=>simp
  | succ j =>
   have hj:((j+1:Nat):Int) - 1=(j:Int):=by omega
   have hlt:=z0n hx
   obtain ⟨y,hy⟩:∃ y,l[j]?=some y:=⟨_,List.getElem?_eq_getElem (by omega)⟩
   rw [hj,z4y,hy]
   simp only [Bool.not_true,Bool.false_eq_true,if_false,Option.bind_some,if_true,Nat.zero_lt_succ,Nat.add_sub_cancel,hy]
   cases (Op.bytesLess x y || x == y) <;> simp
theorem w3g (e:qo) (a b:Int):forL (fun (k:Nat) (x:Int) (s:Unit)=>z74 k x) (fun (s:Unit)=>z4j e) 0 [a,b] ()=if a≠0 then some a else if b≠0 then some b else z4j e:=by
 rw [y5f [a,b] 0 (e:=fun _ x=>x) (fun j x _ _=>by unfold z74; by_cases h:x=0 <;> simp [h])]
 simp only [feI]
 by_cases h:a=0
 ·by_cases h2:b=0
  ·simp [h,h2]
  ·simp [h,h2]
 ·simp [h]
theorem x1t (e:qo) (h:enP e):∃ f,z0m e=some f∧z6t e=some f ∧
  (f=0→vo e.Request=some 0∧hdsE e.Response.Headers=0∧momP e.At=true∧(vyL (ptsB (qn vyN e.Response.Headers))).2.2=0):=by
 obtain ⟨⟨⟨hr,hr2⟩,hq⟩,ha,ht,ht2⟩:=h
 obtain ⟨e1,a1,a2,a3⟩:=y26 e.Request hr
 obtain ⟨e2,b1,b2,b3⟩:=y8v e.Response (y0w ha (by omega))
 unfold z0m z6t
 rw [a1,a2,b1,b2]
 simp only [Option.bind_some]
 rw [if_pos (show ([e1,e2]:List Int).length≤1000000000 by simp),w3g]
 by_cases z1:e1=0
 ·subst z1
  simp only [ne_eq,not_true_eq_false,decide_false,Bool.false_eq_true,if_false]
  by_cases z2:e2=0
  ·subst z2
   have h0:=b3 rfl
   obtain ⟨v1,v2⟩:=y6l e.Response h0 (y0v ha)
   simp only [not_true_eq_false,decide_false,Bool.false_eq_true,if_false]
   unfold z4j
   rw [z0u,z0u,y3n,y3n]
   simp only [Option.bind_some]
   have hJ:∀ b:Bool,z1q e b=Qi e b∧∃ f,Qi e b=some f∧(f=0→b=false∧(vyL (ptsB (qn vyN e.Response.Headers))).2.2=0):=fun b=>by
    unfold z1q Qi z94
    cases b
    ·simp only [Bool.false_eq_true,if_false]
     by_cases h20:20 < (e.Tags.length:Int)
     ·have h2p:decide (20 < (e.Tags.length:Int))=true:=by simpa using h20
      rw [if_pos h2p,if_pos h2p]
      exact ⟨rfl,2,rfl,by simp⟩
     ·have h2n:¬ decide (20 < (e.Tags.length:Int))=true:=by simpa using h20
      have hln:e.Tags.length≤1000000000:=by omega
      rw [if_neg h2n,if_neg h2n,if_pos hln,if_pos hln]
      have t1:forL (fun (k:Nat) (x:Bs) (s:Unit)=>z3n e.Tags k x) (fun (s:Unit)=>y0f) 0 e.Tags ()=some (feI (tgE e.Tags) 0 e.Tags):=
       y1e rfl e.Tags 0 fun j x _ hx=>(y7b e.Tags ht2 e rfl j x (by simpa using hx)).1
      have t2:forL (fun (k:Nat) (x:Bs) (s:Unit)=>z4g e k x) (fun (s:Unit)=>z4i e) 0 e.Tags ()=if feI (tgE e.Tags) 0 e.Tags≠0 then some (feI (tgE e.Tags) 0 e.Tags) else z4i e:=
       y5f e.Tags 0 fun j x _ hx=>(y7b e.Tags ht2 e rfl j x (by simpa using hx)).2
      rw [t1,t2]
      simp only [Option.bind_some]
      unfold z4i
      rw [v1,v2]
      simp only [Option.bind_some]
      by_cases hf:feI (tgE e.Tags) 0 e.Tags=0
      ·rw [if_neg (show ¬ decide (feI (tgE e.Tags) 0 e.Tags≠0)=true by simpa using hf),if_neg (show ¬ feI (tgE e.Tags) 0 e.Tags≠0 by simpa using hf)]
       exact ⟨rfl,_,rfl,fun h=>⟨trivial,h⟩⟩
      ·rw [if_pos (show decide (feI (tgE e.Tags) 0 e.Tags≠0)=true by simpa using hf),if_pos hf]
       exact ⟨rfl,_,rfl,fun h=>absurd h hf⟩
    ·exact ⟨rfl,1,rfl,by simp⟩
   cases hm:momP e.At
   ·obtain ⟨j1,f,j2,j3⟩:=hJ true
    simp only [Bool.not_false,if_true]
    rw [j1,j2]
    exact ⟨f,rfl,rfl,fun h=>by have:=(j3 h).1; cases this⟩
   ·obtain ⟨j1,f,j2,j3⟩:=hJ (!momP e.Used)
    simp only [Bool.not_true,Bool.false_eq_true,if_false]
    rw [j1,j2]
    exact ⟨f,rfl,rfl,fun h=>⟨trivial,h0,trivial,(j3 h).2⟩⟩
  ·rw [if_pos (show decide (¬e2=0)=true by simpa using z2),if_pos z2]
   exact ⟨e2,rfl,rfl,fun h=>absurd h z2⟩
 ·rw [if_pos (show decide (e1≠0)=true by simpa using z1),if_pos z1]
  exact ⟨e1,rfl,rfl,fun h=>absurd h z1⟩
def rqS (r:zu):Prop:=rqA r∧qOK r.Query
theorem x2m {k:Int} {s:zn} (h:SB k s) (hk:k≤50000) (v:Int):Ok (z3h s v) fun r=>rqS r.1∧SB (k+400) r.2:=by
 have hJ5:∀ (r3 r5:Bs×zn) (l:List zo) (c:List Int) (a:Int) (p q:Bs),r3.1.length≤100→r5.1∈vn→p.length≤100000→q.length≤100000∧qOK q→haP 20 l→SB (k+400) (zn.mk c a)→Ok (z1g v r3 r5 l c a p q) fun r=>rqS r.1∧SB (k+400) r.2:=by
  intro r3 r5 l c a p q h1 h2 h3 h4 h5 hs
  unfold z1g
  exact yl ⟨⟨⟨⟨by show r3.1.length≤_; omega,h2,h3,h4.1,by simp,y0w h5 (by omega)⟩,vx h5 (by omega)⟩,h4.2⟩,hs⟩
 have hJ4:∀ (r3 r5 r7 r9:Bs×zn) (c:List Int) (a:Int) (l:List zo),r3.1.length≤100→r5.1∈vn→r7.1.length≤100→r9.1.length≤100∧qOK r9.1→haP 20 l→SB (k+100) (zn.mk c a)→Ok (z1h v r3 r5 r7 r9 c a l) fun r=>rqS r.1∧SB (k+400) r.2:=by
  intro r3 r5 r7 r9 c a l h1 h2 h3 h4 h5 hs
  unfold z1h
  refine ya (vy hs (by omega) 40 (by omega)) fun r hr=>qm (fun _ => ?_) (fun _=>hJ5 _ _ _ _ _ _ _ h1 h2 (by omega) ⟨by omega,h4.2⟩ h5 (hr.mono (by omega)))
  exact ya (x8n hr (by omega)) fun r50 h50=>ya (x78 h50.2 (by omega)) fun r52 h52=>hJ5 _ _ _ _ _ _ _ h1 h2 h50.1 ⟨by have:=h52.1.1; omega,h52.1.2⟩ h5 (h52.2.mono (by omega))
 have hJ3:∀ (r3 r5 r7 r9:Bs×zn) (c:List Int) (a:Int) (l:List zo),r3.1.length≤100→r5.1∈vn→r7.1.length≤100→r9.1.length≤100∧qOK r9.1→haP 10 l→SB (k+80) (zn.mk c a)→Ok (z1i v r3 r5 r7 r9 c a l) fun r=>rqS r.1∧SB (k+400) r.2:=by
  intro r3 r5 r7 r9 c a l h1 h2 h3 h4 h5 hs
  unfold z1i
  refine ya (vy hs (by omega) 8 (by omega)) fun r hr=>qm (fun _ => ?_) (fun _=>hJ4 _ _ _ _ _ _ _ h1 h2 h3 h4 (vx h5 (by omega)) (hr.mono (by omega)))
  exact ya (uh hr (by omega) 100 _ ⟨by simp,by simp⟩ (by decide)) fun r41 h41=>ok_g (by have:=h5.1; omega) (hJ4 _ _ _ _ _ _ _ h1 h2 h3 h4 (vx (z7u h5 _ _ ⟨rfl,by simp⟩ (by have:=h41.1; omega)) (by omega)) (h41.2.mono (by omega)))
 have hJ2:∀ (r3 r5 r7 r9:Bs×zn) (c:List Int) (a:Int) (l:List zo),r3.1.length≤100→r5.1∈vn→r7.1.length≤100→r9.1.length≤100∧qOK r9.1→haP 5 l→SB (k+70) (zn.mk c a)→Ok (z1j v r3 r5 r7 r9 c a l) fun r=>rqS r.1∧SB (k+400) r.2:=by
  intro r3 r5 r7 r9 c a l h1 h2 h3 h4 h5 hs
  unfold z1j
  refine ya (vy hs (by omega) 12 (by omega)) fun r hr=>qm (fun _ => ?_) (fun _=>hJ3 _ _ _ _ _ _ _ h1 h2 h3 h4 (vx h5 (by omega)) (hr.mono (by omega)))
  exact ok_g (by have:=h5.1; omega) (hJ3 _ _ _ _ _ _ _ h1 h2 h3 h4 (vx (z7u h5 _ _ ⟨rfl,by simp⟩ (by simp)) (by omega)) (hr.mono (by omega)))
 have hJ1:∀ (r3 r5 r7 r9:Bs×zn) (c:List Int) (a:Int) (l:List zo),r3.1.length≤100→r5.1∈vn→r7.1.length≤100→r9.1.length≤100∧qOK r9.1→haP 2 l→SB (k+30) (zn.mk c a)→Ok (z1k v r3 r5 r7 r9 c a l) fun r=>rqS r.1∧SB (k+400) r.2:=by
  intro r3 r5 r7 r9 c a l h1 h2 h3 h4 h5 hs
  unfold z1k
  refine ya (vy hs (by omega) 4 (by omega)) fun r hr=>qm (fun _ => ?_) (fun _=>hJ2 _ _ _ _ _ _ _ h1 h2 h3 h4 (vx h5 (by omega)) (hr.mono (by omega)))
  exact ya (w4l hr (by omega)) fun r25 h25=>ok_g (by have:=h5.1; omega) (hJ2 _ _ _ _ _ _ _ h1 h2 h3 h4 (vx (z7u h5 _ _ ⟨rfl,by simp⟩ h25.1) (by omega)) (h25.2.mono (by omega)))
 unfold z3h
 refine ya (uh h (by omega) 100 _ ⟨by simp,by simp⟩ (by decide)) fun r3 h3=>ya (uw h3.2 (by omega) _ ⟨by simp,by simp⟩) fun r5 h5=>ya (uh h5.2 (by omega) 100 _ ⟨by simp,by simp⟩ (by decide)) fun r7 h7=>ya (uw h7.2 (by omega) _ ⟨by simp,by simp⟩) fun r9 h9=>ya (vy h9.2 (by omega) 3 (by omega)) fun r11 h11 => ?_
 have h9q:r9.1.length≤100∧qOK r9.1:=by
  have hm:=h9.1
  simp only [List.mem_cons,List.not_mem_nil,or_false] at hm
  rcases hm with e | e | e | e <;> rw [e] <;> exact ⟨by decide,.inl (by decide)⟩
 have hh:r5.1∈vn:=(show ∀ x,x∈([[97,46,98],[97,46,98],[65,46,66,58,56,48],[99,46,100]]:List Bs)→x∈vn by decide +kernel) _ h5.1
 refine qm (fun _ => ?_) (fun _=>hJ1 _ _ _ _ _ _ _ h3.1 hh h7.1 h9q (z33 2) (h11.mono (by omega)))
 exact ya (z9e h11 (by omega) 3000 _ ⟨by simp,by simp⟩ (by decide +kernel)) fun r14 h14=>ya (uh h14.2 (by omega) 100 _ ⟨by simp,by simp⟩ (by decide)) fun r16 h16=>ok_g (by simp) (hJ1 _ _ _ _ _ _ _ h3.1 hh h7.1 h9q (vx (z7u (z33 0) _ _ h14.1 (by have:=h16.1; omega)) (by omega)) (h16.2.mono (by omega)))
theorem w3k {k:Int} {s:zn} (h:SB k s) (hk:k≤4000):Ok (z6x s) fun r=>enP r.1∧SB (k+620) r.2:=by
 unfold z6x
 refine ya (x2m h (by omega) 0) fun r2 h2=>ya (w39 h2.2 (by omega)) fun r4 h4=>ya (y3b h4.2 (by omega) _ ⟨by simp,by simp⟩) fun r6 h6=>ya (xk h6.2 (by omega) 3 (by omega)) fun r8 h8 => ?_
 have hJ:∀ (c30:List Int) (c31:Int) (c32:Bs) (c33:Int) (c34:List Bs) (c35:Int),SB (k+620) (zn.mk c30 c31)→c32∈vn→(c34.length≤100∧∀ t,t∈c34→t.length≤1000)→Ok (Yc r2 r4 c30 c31 c32 c33 c34 c35) fun r=>enP r.1∧SB (k+620) r.2:=by
  intro c30 c31 c32 c33 c34 c35 hs hh ht
  obtain ⟨⟨⟨⟨q1,q2,q3,q4,q5,q6⟩,qA⟩,qq⟩,_⟩:=h2
  exact yl ⟨⟨⟨⟨⟨q1,hh,q3,q4,q5,q6⟩,qA⟩,qq⟩,h4.1,ht⟩,hs⟩
 obtain ⟨⟨n1,n2,_⟩,n4⟩:=h8
 have hx:∃ x,at? ([[],[[114,101,100]],[[98,108,117,101],[114,101,100]]]:List (List Bs)) r8.1=some x∧(x.length≤100∧∀ t,t∈x→t.length≤1000):=by
  have:=n2 (by omega)
  rcases (show r8.1=0∨r8.1=1∨r8.1=2 by omega) with e | e | e <;> rw [e] <;> exact ⟨_,rfl,by decide,by decide⟩
 obtain ⟨x10,x1,x2⟩:=hx
 have hhost:r2.1.Host∈vn:=h2.1.1.1.2.1
 rw [x1]
 simp only [Option.bind_some]
 refine ya (vy n4 (by omega) 20 (by omega)) fun r12 h12=>qm (fun _ => ?_) (fun _=>hJ _ _ _ _ _ _ (h12.mono (by omega)) hhost x2)
 refine ya (xk h12 (by omega) 4 (by omega)) fun r15 h15 => ?_
 refine qm (fun _=>ya (y3k h15.2 (by omega) 0 100 (by omega)) fun r18 h18=>hJ _ _ _ _ _ _ (h18.2.mono (by omega)) hhost x2) (fun _ => ?_)
 refine qm (fun _=>ya (y3k h15.2 (by omega) 0 100 (by omega)) fun r18 h18=>hJ _ _ _ _ _ _ (h18.2.mono (by omega)) hhost x2) (fun _ => ?_)
 refine qm (fun _=>ya (xk h15.2 (by omega) 3 (by omega)) fun r24 h24 => ?_) (fun _=>ya (w2d h15.2 (by omega)) fun r28 h28=>hJ _ _ _ _ _ _ (h28.2.mono (by omega)) h28.1 x2)
 obtain ⟨⟨m1,m2,_⟩,m4⟩:=h24
 have hx:∃ x,at? ([[[114,101,100],[98,108,117,101]],[[]],[[65]]]:List (List Bs)) r24.1=some x∧(x.length≤100∧∀ t,t∈x→t.length≤1000):=by
  have:=m2 (by omega)
  rcases (show r24.1=0∨r24.1=1∨r24.1=2 by omega) with e | e | e <;> rw [e] <;> exact ⟨_,rfl,by decide,by decide⟩
 obtain ⟨x26,y1,y2⟩:=hx
 rw [y1]
 simp only [Option.bind_some]
 exact hJ _ _ _ _ _ _ (m4.mono (by omega)) hhost y2
end Go.Proofs.YtbndlmnjeofkdaaGreatDoor
