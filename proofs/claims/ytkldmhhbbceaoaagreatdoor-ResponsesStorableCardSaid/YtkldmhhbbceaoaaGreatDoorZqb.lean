/- Plain: the law ResponsesStorable is true for every list of numbers. -/
import Derived.Test.YtkldmhhbbceaoaaGreatDoorCtZq
namespace Go.Proofs.YtkldmhhbbceaoaaGreatDoor
set_option linter.unusedVariables false
set_option maxRecDepth 20000
def haP (n:Nat) (l:List zm):Prop:=l.length≤n∧∀ y,y∈l→hdA y
theorem z64 (n:Nat):haP n ([]:List zm):=⟨by simp,by simp⟩
theorem vc {n m:Nat} {l:List zm} (h:haP n l) (hm:n≤m):haP m l:=⟨by have:=h.1; omega,h.2⟩
theorem z39 {n:Nat} {l:List zm} (h:haP n l) (a b:Bs) (h1:ascB a=true∧a.length≤3000) (h2:b.length≤30000):haP (n+1) (l++[zm.mk a b]):=
 ⟨by have:=h.1; simp; omega,x1b h.2 (x1c h1 h2)⟩
theorem y35 {n:Nat} {l:List zm} (h:haP n l) (hn:n≤1000):hdsP l:=⟨by have:=h.1; omega,fun y hy=>(h.2 y hy).1⟩
def rqA (r:yv):Prop:=rqP r∧haP 100 r.Headers
theorem x2n {k:Int} {s:zh} (h:SB k s) (hk:k≤300) (v:Int):Ok (z3d s v) fun r=>rqA r.1∧SB (k+400) r.2:=by
 have hJ5:∀ (r3 r5:Bs×zh) (l:List zm) (c:List Int) (a:Int) (p q:Bs),r3.1.length≤100→r5.1∈jg→p.length≤100000→q.length≤100000→haP 20 l→SB (k+400) (zh.mk c a)→Ok (Qm v r3 r5 l c a p q) fun r=>rqA r.1∧SB (k+400) r.2:=by
  intro r3 r5 l c a p q h1 h2 h3 h4 h5 hs
  unfold Qm
  exact ym ⟨⟨⟨by show r3.1.length≤_; omega,h2,h3,h4,by simp,y35 h5 (by omega)⟩,vc h5 (by omega)⟩,hs⟩
 have hJ4:∀ (r3 r5 r7 r9:Bs×zh) (c:List Int) (a:Int) (l:List zm),r3.1.length≤100→r5.1∈jg→r7.1.length≤100→r9.1.length≤100→haP 20 l→SB (k+100) (zh.mk c a)→Ok (Qn v r3 r5 r7 r9 c a l) fun r=>rqA r.1∧SB (k+400) r.2:=by
  intro r3 r5 r7 r9 c a l h1 h2 h3 h4 h5 hs
  unfold Qn
  refine zr (wm hs (by omega) 40 (by omega)) fun r hr=>yz (fun _ => ?_) (fun _=>hJ5 _ _ _ _ _ _ _ h1 h2 (by omega) (by omega) h5 (hr.mono (by omega)))
  exact zr (y2c hr (by omega)) fun r50 h50=>zr (y17 h50.2 (by omega)) fun r52 h52=>hJ5 _ _ _ _ _ _ _ h1 h2 h50.1 (by have:=h52.1; omega) h5 (h52.2.mono (by omega))
 have hJ3:∀ (r3 r5 r7 r9:Bs×zh) (c:List Int) (a:Int) (l:List zm),r3.1.length≤100→r5.1∈jg→r7.1.length≤100→r9.1.length≤100→haP 10 l→SB (k+80) (zh.mk c a)→Ok (Qo v r3 r5 r7 r9 c a l) fun r=>rqA r.1∧SB (k+400) r.2:=by
  intro r3 r5 r7 r9 c a l h1 h2 h3 h4 h5 hs
  unfold Qo
  refine zr (wm hs (by omega) 8 (by omega)) fun r hr=>yz (fun _ => ?_) (fun _=>hJ4 _ _ _ _ _ _ _ h1 h2 h3 h4 (vc h5 (by omega)) (hr.mono (by omega)))
  exact zr (va hr (by omega) 100 _ ⟨by simp,by simp⟩ (by decide)) fun r41 h41=>ok_g (by have:=h5.1; omega) (hJ4 _ _ _ _ _ _ _ h1 h2 h3 h4 (vc (z39 h5 _ _ ⟨rfl,by simp⟩ (by have:=h41.1; omega)) (by omega)) (h41.2.mono (by omega)))
 have hJ2:∀ (r3 r5 r7 r9:Bs×zh) (c:List Int) (a:Int) (l:List zm),r3.1.length≤100→r5.1∈jg→r7.1.length≤100→r9.1.length≤100→haP 5 l→SB (k+70) (zh.mk c a)→Ok (Qp v r3 r5 r7 r9 c a l) fun r=>rqA r.1∧SB (k+400) r.2:=by
  intro r3 r5 r7 r9 c a l h1 h2 h3 h4 h5 hs
  unfold Qp
  refine zr (wm hs (by omega) 12 (by omega)) fun r hr=>yz (fun _ => ?_) (fun _=>hJ3 _ _ _ _ _ _ _ h1 h2 h3 h4 (vc h5 (by omega)) (hr.mono (by omega)))
  exact ok_g (by have:=h5.1; omega) (hJ3 _ _ _ _ _ _ _ h1 h2 h3 h4 (vc (z39 h5 _ _ ⟨rfl,by simp⟩ (by simp)) (by omega)) (hr.mono (by omega)))
 have hJ1:∀ (r3 r5 r7 r9:Bs×zh) (c:List Int) (a:Int) (l:List zm),r3.1.length≤100→r5.1∈jg→r7.1.length≤100→r9.1.length≤100→haP 2 l→SB (k+30) (zh.mk c a)→Ok (Qq v r3 r5 r7 r9 c a l) fun r=>rqA r.1∧SB (k+400) r.2:=by
  intro r3 r5 r7 r9 c a l h1 h2 h3 h4 h5 hs
  unfold Qq
  refine zr (wm hs (by omega) 4 (by omega)) fun r hr=>yz (fun _ => ?_) (fun _=>hJ2 _ _ _ _ _ _ _ h1 h2 h3 h4 (vc h5 (by omega)) (hr.mono (by omega)))
  exact zr (x25 hr (by omega)) fun r25 h25=>ok_g (by have:=h5.1; omega) (hJ2 _ _ _ _ _ _ _ h1 h2 h3 h4 (vc (z39 h5 _ _ ⟨rfl,by simp⟩ h25.1) (by omega)) (h25.2.mono (by omega)))
 unfold z3d
 refine zr (va h (by omega) 100 _ ⟨by simp,by simp⟩ (by decide)) fun r3 h3=>zr (ko h3.2 (by omega) _ ⟨by simp,by simp⟩) fun r5 h5=>zr (va h5.2 (by omega) 100 _ ⟨by simp,by simp⟩ (by decide)) fun r7 h7=>zr (va h7.2 (by omega) 100 _ ⟨by simp,by simp⟩ (by decide)) fun r9 h9=>zr (wm h9.2 (by omega) 3 (by omega)) fun r11 h11 => ?_
 have hh:r5.1∈jg:=(show ∀ x,x∈([[97,46,98],[97,46,98],[65,46,66,58,56,48],[99,46,100]]:List Bs)→x∈jg by decide +kernel) _ h5.1
 refine yz (fun _ => ?_) (fun _=>hJ1 _ _ _ _ _ _ _ h3.1 hh h7.1 h9.1 (z64 2) (h11.mono (by omega)))
 exact zr (z5h h11 (by omega) 3000 _ ⟨by simp,by simp⟩ (by decide +kernel)) fun r14 h14=>zr (va h14.2 (by omega) 100 _ ⟨by simp,by simp⟩ (by decide)) fun r16 h16=>ok_g (by simp) (hJ1 _ _ _ _ _ _ _ h3.1 hh h7.1 h9.1 (vc (z39 (z64 0) _ _ h14.1 (by have:=h16.1; omega)) (by omega)) (h16.2.mono (by omega)))
theorem z12 {n:Nat} (name value:Bs) (c:ya) (h:haP n c.Headers) (hn:n≤100) (h1:ascB name=true∧name.length≤3000) (h2:value.length≤30000):Ok (ub name value c) fun r=>haP (n+1) r.Headers:=by
 unfold ub
 exact ok_g (by have:=h.1; omega) (ym (z39 h name value h1 h2))
theorem x2m {k:Int} {s:zh} (h:SB k s) (hk:k≤5000):Ok (z3c s) fun r=>haP 100 r.1.Headers∧SB (k+200) r.2:=by
 have hJ7:∀ (l:List zm) (b:Bs) (c:List Int) (a n:Int),haP 100 l→SB (k+200) (zh.mk c a)→Ok (Qf l b c a n) fun r=>haP 100 r.1.Headers∧SB (k+200) r.2:=by
  intro l b c a n hl hs
  unfold Qf
  exact ym ⟨hl,hs⟩
 have hJ6:∀ (c:List Int) (a:Int) (l:List zm) (n:Int) (b:Bs),haP 50 l→SB (k+180) (zh.mk c a)→Ok (Qg c a l n b) fun r=>haP 100 r.1.Headers∧SB (k+200) r.2:=by
  intro c a l n b hl hs
  unfold Qg
  refine zr (wm hs (by omega) 40 (by omega)) fun r hr=>yz (fun _ => ?_) (fun _=>hJ7 _ _ _ _ _ (vc hl (by omega)) (hr.mono (by omega)))
  exact zr (z8r hr (by omega) 100 599 (by omega)) fun r2 h2=>hJ7 _ _ _ _ _ (vc hl (by omega)) (h2.2.mono (by omega))
 have hJ5:∀ (c:List Int) (a:Int) (l:List zm) (n:Int) (b:Bs),haP 20 l→SB (k+100) (zh.mk c a)→Ok (Qh c a l n b) fun r=>haP 100 r.1.Headers∧SB (k+200) r.2:=by
  intro c a l n b hl hs
  unfold Qh
  refine zr (wm hs (by omega) 30 (by omega)) fun r hr=>yz (fun _ => ?_) (fun _=>hJ6 _ _ _ _ _ (vc hl (by omega)) (hr.mono (by omega)))
  refine zr (z5h hr (by omega) 3000 _ ⟨by simp,by simp⟩ (by decide +kernel)) fun r75 h75=>zr (z4m h75.2 (by omega) 12 (by omega) [44] (by simp) _ ⟨by simp,by simp⟩ (by decide)) fun r77 h77=>zr (va h77.2 (by omega) 30000 _ ⟨by simp,by simp⟩ (by simp [h77.1])) fun r79 h79 => ?_
  exact zr (z12 r75.1 r79.1 (ya.mk n l b) hl (by omega) h75.1 h79.1) fun r81 h81=>hJ6 _ _ _ _ _ (vc h81 (by omega)) (h79.2.mono (by omega))
 have hJ4:∀ (c:List Int) (a:Int) (l:List zm) (n:Int) (b:Bs),haP 18 l→SB (k+90) (zh.mk c a)→Ok (Qi c a l n b) fun r=>haP 100 r.1.Headers∧SB (k+200) r.2:=by
  intro c a l n b hl hs
  unfold Qi
  refine zr (wm hs (by omega) 6 (by omega)) fun r hr=>yz (fun _ => ?_) (fun _=>hJ5 _ _ _ _ _ (vc hl (by omega)) (hr.mono (by omega)))
  exact zr (va hr (by omega) 100 _ ⟨by simp,by simp⟩ (by decide)) fun r63 h63=>zr (z12 _ r63.1 (ya.mk n l b) hl (by omega) ⟨rfl,by simp⟩ (by have:=h63.1; omega)) fun r65 h65=>hJ5 _ _ _ _ _ (vc h65 (by omega)) (h63.2.mono (by omega))
 have hJ3:∀ (c:List Int) (a:Int) (l:List zm) (n:Int) (b:Bs),haP 16 l→SB (k+80) (zh.mk c a)→Ok (Qj c a l n b) fun r=>haP 100 r.1.Headers∧SB (k+200) r.2:=by
  intro c a l n b hl hs
  unfold Qj
  refine zr (wm hs (by omega) 4 (by omega)) fun r hr=>yz (fun _ => ?_) (fun _=>hJ4 _ _ _ _ _ (vc hl (by omega)) (hr.mono (by omega)))
  exact zr (va hr (by omega) 100 _ ⟨by simp,by simp⟩ (by decide)) fun r51 h51=>zr (z12 _ r51.1 (ya.mk n l b) hl (by omega) ⟨rfl,by simp⟩ (by have:=h51.1; omega)) fun r53 h53=>hJ4 _ _ _ _ _ (vc h53 (by omega)) (h51.2.mono (by omega))
 have hJ2:∀ (c:List Int) (a:Int) (l:List zm) (n:Int) (b:Bs),haP 14 l→SB (k+60) (zh.mk c a)→Ok (Qk c a l n b) fun r=>haP 100 r.1.Headers∧SB (k+200) r.2:=by
  intro c a l n b hl hs
  unfold Qk
  refine zr (wm hs (by omega) 2 (by omega)) fun r hr=>yz (fun _ => ?_) (fun _=>hJ3 _ _ _ _ _ (vc hl (by omega)) (hr.mono (by omega)))
  exact zr (z5h hr (by omega) 3000 _ ⟨by simp,by simp⟩ (by decide +kernel)) fun r37 h37=>zr (va h37.2 (by omega) 100 _ ⟨by simp,by simp⟩ (by decide)) fun r39 h39=>zr (z12 r37.1 r39.1 (ya.mk n l b) hl (by omega) h37.1 (by have:=h39.1; omega)) fun r41 h41=>hJ3 _ _ _ _ _ (vc h41 (by omega)) (h39.2.mono (by omega))
 have hJ1:∀ (c:List Int) (a:Int) (l:List zm) (n:Int) (b:Bs),haP 12 l→SB (k+50) (zh.mk c a)→Ok (Ql c a l n b) fun r=>haP 100 r.1.Headers∧SB (k+200) r.2:=by
  intro c a l n b hl hs
  unfold Ql
  refine zr (wm hs (by omega) 3 (by omega)) fun r hr=>yz (fun _ => ?_) (fun _=>hJ2 _ _ _ _ _ (vc hl (by omega)) (hr.mono (by omega)))
  exact zr (va hr (by omega) 100 _ ⟨by simp,by simp⟩ (by decide)) fun r25 h25=>zr (z12 _ r25.1 (ya.mk n l b) hl (by omega) ⟨rfl,by simp⟩ (by have:=h25.1; omega)) fun r27 h27=>hJ2 _ _ _ _ _ (vc h27 (by omega)) (h25.2.mono (by omega))
 unfold z3c
 refine zr (Ws h (by omega) _ ⟨by simp,by simp⟩) fun r2 h2=>zr (xq _ _ ⟨by omega,by omega,by simp⟩) fun r4 h4=>zr (ko h2.2 (by omega) _ ⟨by simp,by simp⟩) fun r6 h6=>zr (wm h6.2 (by omega) 6 (by omega)) fun r8 h8=>yz (fun _ => ?_) (fun _=>hJ1 _ _ _ _ _ (z64 12) (h8.mono (by omega)))
 exact zr (z5h h8 (by omega) 3000 _ ⟨by simp,by simp⟩ (by decide +kernel)) fun r11 h11=>zr (x2e h11.2 (by omega)) fun r13 h13=>zr (z12 r11.1 r13.1 (ya.mk r2.1 [] r6.1) (z64 0) (by omega) h11.1 h13.1) fun r15 h15=>hJ1 _ _ _ _ _ (vc h15 (by omega)) (h13.2.mono (by omega))
theorem y4n (a b:Int):z3f [a,b]=some (if a≠0 then a else b):=by
 unfold z3f z7e
 rw [if_pos (by simp)]
 show (Qr 0 a).bind _=_
 unfold Qr
 by_cases h:a=0
 ·rw [if_neg (by simpa using h),if_neg (by simpa using h)]
  show (Qr 1 b).bind _=_
  unfold Qr
  by_cases h2:b=0
  ·rw [if_neg (by simpa using h2),h2]; rfl
  ·rw [if_pos (by simpa using h2)]; rfl
 ·rw [if_pos (by simpa using h),if_pos h]; rfl
theorem y46 {α:Type} {p:Nat→α→Bool}:∀ (l:List α) (k:Nat),allI p k l=true↔∀ j x,l[j]?=some x→p (k+j) x=true
 | [],k=>by simp [allI]
 | x::l,k=>by
  simp only [allI,Bool.and_eq_true,y46 l (k+1)]
  constructor
  ·rintro ⟨h1,h2⟩ j y hj
   cases j with
   | zero=>simp at hj; subst hj; exact h1
   | succ j=>have:=h2 j y (by simpa using hj); rwa [show k+1+j=k+(j+1) by omega] at this
  ·intro h
   refine ⟨h 0 x rfl,fun j y hj => ?_⟩
   have:=h (j+1) y (by simpa using hj)
   rwa [show k+(j+1)=k+1+j by omega] at this
theorem eqY (a b:List Bs) (h:a.length≤1000000000):Ya a b=some (decide (a=b)):=by
 unfold Ya
 by_cases hl:a.length=b.length
 ·rw [if_neg (by simp [hl]),if_pos h,Qu (p:=fun k x=>decide (b[k]?=some x)) (e:=true) (r0:=false) rfl a 0 fun j x _ hx => ?_]
  ·have:allI (fun k x=>decide (b[k]?=some x)) 0 a=decide (a=b):=by
    rw [Bool.eq_iff_iff,y46]
    simp only [Nat.zero_add,decide_eq_true_eq]
    constructor
    ·intro h
     apply List.ext_getElem?
     intro j
     cases hj:a[j]? with
     | some x=>rw [h j x hj]
     | none=>rw [List.getElem?_eq_none_iff] at hj; rw [eq_comm,List.getElem?_eq_none_iff]; omega
    ·rintro rfl j x hj; exact hj
   rw [this]
   cases decide (a=b) <;> rfl
  ·have hx:a[j]?=some x:=by simpa using hx
   have hj:=z6l hx
   obtain ⟨y,hy⟩:∃ y,b[j]?=some y:=⟨_,List.getElem?_eq_getElem (by omega)⟩
   unfold z5i
   rw [hy]
   simp only [Option.bind_some]
   by_cases hxy:x=y
   ·simp [hxy]
   ·have:¬ y=x:=fun e=>hxy e.symm
    simp [hxy,this]
 ·have:¬ a=b:=fun e=>hl (by rw [e])
  rw [if_pos (by simp; omega)]
  simp [this]
def vyN:Bs:=[118,97,114,121]
def vyL (P:List Bs):List Bs×Bool×Int:=if P.all tokB then (if P.any (fun x=>decide (x=[42])) then ([],true,0) else if 10 < ((setB (P.map lo)).length:Int) then ([],false,2) else (setB (P.map lo),false,0)) else ([],false,9)
theorem y2x {x:Bs} (h:tokB x=true):vu x=some (lo x):=y8l ⟨z45 h,by have:=y08 h; omega⟩
theorem y8m (x:Bs):decide (([42]:Bs)=lo x)=decide (x=[42]):=by
 rw [decide_eq_decide]
 constructor
 ·intro h
  unfold lo Lib.toLowerA at h
  cases x with
  | nil=>simp at h
  | cons c t =>
   simp only [List.map_cons,List.cons.injEq] at h
   obtain ⟨h1,h2⟩:=h
   have:=jr (fun c => !(Lib.lowerB c == 42) || c == 42) (by decide +kernel) c
   rw [← h1] at this
   have h3:c=42:=by simpa using this
   have h4:t=[]:=by simpa using h2.symm
   rw [h3,h4]
 ·rintro rfl; decide +kernel
theorem vyP:∀ (l pre:List Bs),(∀ x,x∈l→x.length≤2000)→rng (fun (k:Nat) (s:(List Bs))=>Qw k s) (fun (s:(List Bs))=>Zk s) l.length pre.length (pre++l)=if l.all tokB then Zk (pre++l.map lo) else some ([],false,9)
 | [],pre,_=>by simp [rng]
 | x::l,pre,h=>by
  have e1:(pre++x::l)[pre.length]?=some x:=by simp
  have e3:pre.length+1=(pre++[lo x]).length:=by simp
  have hst:Qw pre.length (pre++x::l)=if tokB x then some (.inl ((pre++[lo x])++l)) else some (.inr ([],false,9)):=by
   have e2:(pre++x::l).set pre.length (lo x)=(pre++[lo x])++l:=by simp
   unfold Qw
   rw [e1]
   simp only [Option.bind_some]
   rw [z3r x (by have:=h x (by simp); omega)]
   simp only [Option.bind_some]
   cases ht:tokB x
   ·rfl
   ·rw [if_neg (by simp),y2x ht]
    simp only [Option.bind_some]
    rw [e2]; rfl
  show (Qw pre.length (pre++x::l)).bind _=_
  rw [hst]
  cases ht:tokB x
  ·simp [ht,after]
  ·simp only [if_true,Option.bind_some,after]
   rw [e3,vyP l (pre++[lo x]) fun y hy=>h y (List.mem_cons_of_mem _ hy)]
   simp [ht]
theorem vyR:∀ (l:List Bs) (k:Nat) (b:Bool) (q:List Bs),(∀ x,x∈l→x.length≤2000)→q.length+l.length≤10000000→forL (fun (k:Nat) (x:Bs) (s:Bool×(List Bs))=>Yu k x s.1 s.2) (fun (s:Bool×(List Bs))=>z1e s.1 s.2) k l (b,q)=if l.all tokB then z1e (b || l.any fun x=>decide (x=[42])) (q++l.map lo) else some ([],false,9)
 | [],k,b,q,_,_=>by simp [forL]
 | x::l,k,b,q,h,hq=>by
  simp only [List.length_cons] at hq
  have hst:Yu k x b q=if tokB x then some (.inl (b || decide (x=[42]),q++[lo x])) else some (.inr ([],false,9)):=by
   unfold Yu
   rw [z44 x (by have:=h x (by simp); omega)]
   simp only [Option.bind_some]
   cases ht:tokB x
   ·rfl
   ·rw [if_neg (by simp),y2x ht]
    simp only [Option.bind_some]
    rw [if_pos (by omega)]; rfl
  show (Yu k x b q).bind _=_
  rw [hst]
  cases ht:tokB x
  ·simp [ht,after]
  ·simp only [if_true,Option.bind_some,after]
   rw [vyR l (k+1) (b || decide (x=[42])) (q++[lo x]) (fun y hy=>h y (List.mem_cons_of_mem _ hy)) (by simp; omega)]
   simp [ht,Bool.or_assoc]
theorem z5g (l:List Bs) (h:l.length≤10000000) {β:Type} (f:List Bs→Option β):((kq l).bind fun r=>(xu r).bind fun r2=>f r2)=f (setB l):=by
 unfold kq xu
 rw [if_pos (by omega)]
 simp only [Option.bind_some]
 rw [if_pos (by simp; omega)]
 rfl
theorem y42:∀ l:List Bs,(l.map lo).any (fun x=>decide (([42]:Bs)=x))=l.any fun x=>decide (x=[42])
 | []=>rfl
 | x::l=>by rw [List.map_cons,List.any_cons,List.any_cons,y8m,y42 l]
theorem z7p (a:ya) (h0:hdsE a.Headers=0) (h2:∀ x,x∈a.Headers→nmOK x):xc a=some (vyL (ptsB (yu vyN a.Headers)))∧Yf a=some (vyL (ptsB (yu vyN a.Headers))):=by
 have hl:=z1c h0
 have hv:=xm a.Headers vyN (by omega) h2 ⟨rfl,by decide⟩
 have hV:=z7q h0 vyN
 have hp1:=z2j _ hV
 have hp2:=y2e _ hV
 have hpl:=z8k _ hV
 have hm:∀ x,x∈ptsB (yu vyN a.Headers)→x.length≤2000:=fun x hx=>by
  obtain ⟨v,hv1,hv2,_⟩:=z8j hx
  have:=hV.2 v hv1
  omega
 unfold xc Yf
 show (vy a.Headers vyN).bind _=_∧(jo a.Headers vyN).bind _=_
 rw [hv.1,hv.2]
 simp only [Option.bind_some]
 rw [hp1,hp2]
 simp only [Option.bind_some]
 generalize ptsB (yu vyN a.Headers)=P at *
 rw [if_pos (by omega),if_pos (by omega)]
 have a1:=vyP P [] hm
 have a2:=vyR P 0 false [] hm (by simp; omega)
 simp only [List.length_nil,List.nil_append,Bool.false_or] at a1 a2
 rw [a1,a2]
 unfold vyL
 cases P.all tokB
 ·simp
 ·simp only [if_true]
  have hi:=z1a (P.map lo) [42] (by simp; omega)
  have hk:xa (P.map lo)=some (setB (P.map lo)):=by
   unfold xa Yb
   rw [if_pos (by simp; omega)]
   simp only [Option.bind_some]
   exact z5g (P.map lo) (by simp; omega) fun r=>some r
  unfold Zk z1e z2m
  rw [hi,hk]
  simp only [Option.bind_some]
  have hd:decide (0≤idxB (P.map lo) [42])=P.any fun x=>decide (x=[42]):=by
   unfold idxB
   rw [y4m,y42]
  rw [hd]
  cases P.any fun x=>decide (x=[42])
  ·simp only [Bool.false_eq_true,if_false]
   rw [z5g (P.map lo) (by simp; omega) fun r15=>if decide (10 < (r15.length:Int)) then (some ([],false,2)) else (some (r15,false,0))]
   by_cases h10:10 < ((setB (P.map lo)).length:Int)
   ·rw [if_pos (by simpa using h10),if_pos h10]; exact ⟨rfl,rfl⟩
   ·rw [if_neg (by simpa using h10),if_neg h10]; exact ⟨rfl,rfl⟩
  ·exact ⟨rfl,rfl⟩
theorem y5b {P:List Bs}:(vyL P).1.length≤10:=by
 unfold vyL
 split
 ·split
  ·simp
  ·split
   ·simp
   ·show (setB (P.map lo)).length≤10
    omega
 ·simp
theorem y63 {x:Bs} (h:sOK x=true):0≤nOf x∧nOf x≤100000000:=by
 unfold sOK outP at h
 unfold nOf
 simp only [Bool.and_eq_true,Bool.not_eq_true',Bool.or_eq_false_iff,decide_eq_false_iff_not] at h
 rw [if_pos h.1]; omega
theorem y7o (r:ya) (h:hdsP r.Headers):∃ e,jt r=some e∧z0n r=some e∧(e=0→hdsE r.Headers=0):=by
 obtain ⟨e,e1,e2⟩:=y7m r h
 refine ⟨e,e1,e2,fun h0 => ?_⟩
 subst h0
 have hh:=z38 r.Headers h
 unfold jt at e1
 rw [z5p,hh.1] at e1
 simp only [Option.bind_some] at e1
 by_cases h0:hdsE r.Headers=0
 ·exact h0
 ·split at e1
  ·simp at e1
  ·rw [if_pos (by simpa using h0)] at e1
   exact absurd (Option.some.inj e1) h0
def nB (n:Int):Prop:=-1≤n∧n≤100000000
def cB (c:zv):Prop:=nB c.MaxAge∧nB c.Shared∧nB c.Stale∧nB c.OnError∧nB c.MaxStale∧nB c.MinFresh
theorem x2r {c:zv} (h:cB c) (y:Int) (b:Bool):cB (jd c y b):=by
 unfold jd
 (repeat' split) <;> exact h
theorem x2q {c:zv} (h:cB c) (y n:Int) (hn:nB n):cB (ke c y n):=by
 obtain ⟨h1,h2,h3,h4,h5,h6⟩:=id h
 unfold ke
 (repeat' split) <;> first | exact ⟨hn,h2,h3,h4,h5,h6⟩ | exact ⟨h1,hn,h3,h4,h5,h6⟩ | exact ⟨h1,h2,hn,h4,h5,h6⟩ | exact ⟨h1,h2,h3,hn,h5,h6⟩ | exact ⟨h1,h2,h3,h4,hn,h6⟩ | exact ⟨h1,h2,h3,h4,h5,hn⟩ | exact h
theorem y5r {c:zv} {x:Bs} (h:cB c) (ht:(vm c x).1=true):cB (vm c x).2:=by
 have hd:vm c x=(let r:=Lib.cut x [61]
  if !tokB r.1 || (r.2.2 && !sOK r.2.1) then (false,c)
  else if 0≤idxB flN (lo r.1) then (!r.2.2,jd c (idxB flN (lo r.1)) true)
  else if idxB cnN (lo r.1) < 0 then (true,c)
  else (r.2.2,numC c (idxB cnN (lo r.1)) (nOf r.2.1))):=rfl
 rw [hd] at ht ⊢
 simp only at ht ⊢
 generalize Lib.cut x [61]=r at *
 by_cases h1:(!tokB r.1 || (r.2.2 && !sOK r.2.1))=true
 ·rw [if_pos h1] at ht; cases ht
 ·rw [if_neg h1] at ht ⊢
  by_cases h2:0≤idxB flN (lo r.1)
  ·rw [if_pos h2]; exact x2r h _ _
  ·rw [if_neg h2] at ht ⊢
   by_cases h3:idxB cnN (lo r.1) < 0
   ·rw [if_pos h3]; exact h
   ·rw [if_neg h3] at ht ⊢
    have h4:r.2.2=true:=ht
    rw [h4] at h1
    have h5:sOK r.2.1=true:=by
     cases hs:sOK r.2.1
     ·rw [hs] at h1; simp at h1
     ·rfl
    have hb:=y63 h5
    show cB (numC c _ (nOf r.2.1))
    unfold numC
    split
    ·exact x2q h _ _ ⟨by omega,hb.2⟩
    ·exact h
theorem x2t:cB (tc c0):=by unfold cB nB; decide
theorem z8o (l:List zm) (h0:hdsE l=0) (h2:∀ x,x∈l→nmOK x):Ok (kr l) fun r=>Za l=some r∧(r.2=0→cB r.1):=by
 have hcnt:=z1c h0
 obtain ⟨r,r1,r2⟩:=y76 l h0 (by omega) h2
 have hv:=xm l ccL (by omega) h2 ⟨rfl,by decide⟩
 have hV:=z7q h0 ccL
 have hp1:=z2j _ hV
 have hpl:=z8k _ hV
 have key:Ok (kr l) fun r=>r.2=0→cB r.1:=by
  rw [z8n]
  unfold Qz
  show Ok ((vy l ccL).bind _) _
  rw [hv.1]
  simp only [Option.bind_some]
  rw [hp1]
  simp only [Option.bind_some]
  refine ok_g (by omega) ?_
  refine y2m (fun _ (s:Tst)=>cB (tc s)) (ptsB (yu ccL l)) 0 c0 x2t (fun j x s _ hx hs => ?_) (fun s hs => ?_)
  ·obtain ⟨v,hv1,hv2,_⟩:=z8j (List.mem_of_getElem? hx)
   have hvl:=hV.2 v hv1
   have a:=z8p j x (tc s) (by omega)
   refine ⟨stT (tc s) x,a,?_⟩
   unfold stT
   cases ht:(vm (tc s) x).1
   ·exact fun h=>by cases h
   ·exact y5r hs ht
  ·exact ym fun _=>hs
 obtain ⟨q,q1,q2⟩:=key
 rw [r1] at q1
 cases q1
 exact ⟨r,r1,r2,q2⟩
def ltV (c:zv):Int:=if c.NoCache then 0 else if 0≤c.Shared then 1000 * c.Shared else max 0 (1000 * c.MaxAge)
theorem y2w {c:zv} (h:cB c):xd c=some (ltV c)∧z0m c=some (ltV c)∧0≤ltV c∧ltV c≤100000000000:=by
 obtain ⟨h1,h2,_⟩:=h
 unfold nB at h1 h2
 unfold xd z0m ltV
 rw [vn (n:=c.Shared * 1000) (by omega),vn (n:=c.MaxAge * 1000) (by omega),vn (n:=1000 * c.Shared) (by omega),vn (n:=1000 * c.MaxAge) (by omega)]
 cases c.NoCache
 ·simp only [Bool.false_eq_true,if_false]
  by_cases hs:0≤c.Shared
  ·rw [if_pos (show decide (c.Shared≠-1)=true by simp; omega),if_pos (show decide (0≤c.Shared)=true by simpa using hs),if_pos hs,Int.mul_comm c.Shared 1000]
   exact ⟨rfl,rfl,by omega,by omega⟩
  ·rw [if_neg (show ¬ decide (c.Shared≠-1)=true by simp; omega),if_neg (show ¬ decide (0≤c.Shared)=true by simpa using hs),if_neg hs]
   by_cases ha:0≤c.MaxAge
   ·rw [if_pos (show decide (c.MaxAge≠-1)=true by simp; omega),Int.mul_comm c.MaxAge 1000]
    exact ⟨by congr 1; omega,rfl,by omega,by omega⟩
   ·rw [if_neg (show ¬ decide (c.MaxAge≠-1)=true by simp; omega)]
    exact ⟨by congr 1; omega,rfl,by omega,by omega⟩
 ·exact ⟨rfl,rfl,by simp,by simp⟩
def spT (c:UInt8):Bool:=c == 32 || c == 44
theorem y6w:(fun c:UInt8=>(Zb (c.toNat:Int)).getD false)=spT:=by
 funext c
 have:=jr (fun c=>decide ((Zb (c.toNat:Int)).getD false=spT c)) (by decide +kernel) c
 exact of_decide_eq_true this
theorem z7h (p:UInt8→Bool) (B:Nat):∀ (l cur:Bs),cur.length+l.length≤B→∀ x,x∈ffGo p cur l→x.length≤B
 | [],cur,h,x,hx=>by
  unfold ffGo at hx
  split at hx
  ·cases hx
  ·obtain rfl:x=cur:=by simpa using hx
   simp at h; omega
 | c::l,cur,h,x,hx=>by
  simp only [List.length_cons] at h
  unfold ffGo at hx
  split at hx
  ·split at hx
   ·exact z7h p B l [] (by simp; omega) x hx
   ·rcases List.mem_cons.1 hx with rfl | hx
    ·omega
    ·exact z7h p B l [] (by simp; omega) x hx
  ·exact z7h p B l (cur++[c]) (by simp; omega) x hx
theorem y4k (p:UInt8→Bool) (l:Bs):(ffGo p [] l).length≤l.length:=by
 have:=z9z p l []
 simpa using this
theorem z7g (p:UInt8→Bool) (hp:p 32=true) (b:Bs):∀ (a cur:Bs),ffGo p cur (a++32::b)=ffGo p cur a++ffGo p [] b
 | [],cur=>by
  rw [List.nil_append]
  conv=>lhs; unfold ffGo
  rw [if_pos hp]
  conv=>rhs; arg 1; unfold ffGo
  split <;> simp
 | c::a,cur=>by
  rw [List.cons_append]
  conv=>lhs; unfold ffGo
  conv=>rhs; arg 1; unfold ffGo
  split
  ·split
   ·exact z7g p hp b a []
   ·rw [z7g p hp b a []]; rfl
  ·exact z7g p hp b a (cur++[c])
theorem y3u (x y:Bs) (l:List Bs):Lib.join (x::y::l) [32]=x++32::Lib.join (y::l) [32]:=by
 rw [show Lib.join (x::y::l) [32]=x++([32]++Lib.join (y::l) [32]) from rfl]; rfl
theorem y4l (p:UInt8→Bool) (hp:p 32=true):∀ V:List Bs,ffGo p [] (Lib.join V [32])=(V.map (ffGo p [])).flatten
 | []=>rfl
 | [x]=>by simp [Lib.join]
 | x::y::l=>by
  rw [y3u,z7g p hp,y4l p hp (y::l)]; rfl
theorem y3t:∀ (V:List Bs) (c:UInt8),c∈Lib.join V [32]→c=32∨∃ v,v∈V∧c∈v
 | [],c,h=>by cases h
 | [x],c,h => .inr ⟨x,by simp,by simpa [Lib.join] using h⟩
 | x::y::l,c,h=>by
  rw [y3u] at h
  rcases List.mem_append.1 h with h | h
  ·exact .inr ⟨x,by simp,h⟩
  ·rcases List.mem_cons.1 h with h | h
   ·exact .inl h
   ·rcases y3t (y::l) c h with h | ⟨v,h1,h2⟩
    ·exact .inl h
    ·exact .inr ⟨v,List.mem_cons_of_mem _ h1,h2⟩
def r44 (c:UInt8):UInt8:=if c=44 then 32 else c
theorem z8i:∀ s:Bs,(44:UInt8) ∉ s→s.map r44=s
 | [],_=>rfl
 | x::s,h=>by
  have h1:x≠44:=fun e=>h (by simp [e])
  have h2:=z8i s (fun e=>h (by simp [e]))
  rw [List.map_cons,h2,show r44 x=x from if_neg h1]
theorem y7t:∀ (n:Nat) (s:Bs),s.length≤n→Lib.replaceK [44] [32] (Lib.count s [44]) s=s.map r44:=by
 intro n
 induction n with
 | zero=>intro s h; obtain rfl:s=[]:=List.length_eq_zero_iff.1 (by omega); rw [Lib.count_miss (by rfl)]; rfl
 | succ n ih =>
  intro s h
  rcases z9w 44 s with h1 | ⟨p,q,rfl,h1⟩
  ·rw [Lib.count_miss (z9k 44 s h1),z8i s h1]; rfl
  ·have hi:=z9l 44 q p h1
   have hd:(p++44::q).drop (p.length+1)=q:=by rw [← List.drop_drop]; simp
   rw [Lib.count_hit (by simp) hi,Nat.add_comm 1,Lib.replaceK_hit _ _ _ _ _ hi]
   simp only [List.length_cons,List.length_nil,Nat.zero_add]
   rw [hd,ih q (by simp at h; omega),List.map_append,List.map_cons,z8i p h1]
   simp [r44]
theorem y7u (s:Bs):Lib.replaceAll s [44] [32]=s.map r44:=by
 unfold Lib.replaceAll Lib.replace Lib.replaceNum
 rw [if_neg (by decide),if_pos (.inl (by decide))]
 exact y7t s.length s (Nat.le_refl _)
theorem z9x:∀ (l cur:Bs),Lib.fieldsGo cur l=ffGo Lib.isSp cur l
 | [],cur=>rfl
 | c::l,cur=>by
  unfold Lib.fieldsGo ffGo
  rw [z9x l [],z9x l (cur++[c])]
theorem x00 (c:UInt8) (h:outP (c.toNat:Int) 32 126=false):Lib.isSp (r44 c)=spT c∧(spT c=false→r44 c=c):=by
 have:=jr (fun c=>outP (c.toNat:Int) 32 126 || (decide (Lib.isSp (r44 c)=spT c) && (spT c || decide (r44 c=c)))) (by decide +kernel) c
 rw [h] at this
 simp only [Bool.false_or,Bool.and_eq_true,decide_eq_true_eq,Bool.or_eq_true] at this
 refine ⟨this.1,fun e => ?_⟩
 rcases this.2 with h | h
 ·rw [e] at h; cases h
 ·exact h
theorem z9y:∀ (l cur:Bs),rgB l 32 126=true→ffGo Lib.isSp cur (l.map r44)=ffGo spT cur l
 | [],cur,h=>rfl
 | c::l,cur,h=>by
  unfold rgB at h
  rw [List.all_cons,Bool.and_eq_true] at h
  have hc:outP (c.toNat:Int) 32 126=false:=by simpa using h.1
  obtain ⟨h1,h2⟩:=x00 c hc
  have i1:=z9y l [] h.2
  have i2:=z9y l (cur++[c]) h.2
  rw [List.map_cons]
  unfold ffGo
  rw [h1,i1]
  cases hs:spT c
  ·rw [h2 hs,i2]
  ·rfl
def tgN:Bs:=[99,97,99,104,101,45,116,97,103]
def tgL (V:List Bs):List Bs:=(V.map (ffGo spT [])).flatten
def tgR (T:List Bs):List Bs×Int:=if T.all keyP then (if 20 < ((setB T).length:Int) then ([],2) else (setB T,0)) else ([],5)
theorem y1a:∀ V:List Bs,(∀ v,v∈V→v.length≤2000)→(tgL V).length≤2000 * V.length
 | [],_=>by simp [tgL]
 | v::V,h=>by
  have h1:=y1a V fun x hx=>h x (List.mem_cons_of_mem _ hx)
  have h2:=y4k spT v
  have h3:=h v (by simp)
  unfold tgL at h1 ⊢
  rw [List.map_cons,List.flatten_cons,List.length_append,List.length_cons]
  omega
theorem y5u {V:List Bs} (h:∀ v,v∈V→v.length≤2000):∀ x,x∈tgL V→x.length≤2000:=fun x hx=>by
 unfold tgL at hx
 obtain ⟨l,h1,h2⟩:=List.mem_flatten.1 hx
 obtain ⟨v,h3,rfl⟩:=List.mem_map.1 h1
 exact z7h spT 2000 v [] (by have:=h v h3; simpa using this) x h2
theorem x1t {v:Bs} (h:ascB v=true) (hl:v.length≤1000000000):z0b v (fun (a0:Int)=>Zb a0)=some (ffGo spT [] v):=by
 unfold z0b
 rw [if_pos ⟨h,hl,fun c=>rfl⟩]
 rw [show (fun c:UInt8=>((fun (a0:Int)=>Zb a0) (c.toNat:Int)).getD false)=spT from y6w]
theorem tagP:∀ (V:List Bs) (k:Nat) (q:List Bs),(∀ v,v∈V→v.length≤2000∧ascB v=true)→q.length+2000 * V.length≤100000000→forL (fun (k:Nat) (x:Bs) (s:(List Bs))=>Qy k x s) (fun (s:(List Bs))=>z1z s) k V q=z1z (q++tgL V)
 | [],k,q,_,_=>by simp [forL,tgL]
 | v::V,k,q,h,hl=>by
  have h1:=h v (by simp)
  have h2:=y4k spT v
  simp only [List.length_cons] at hl
  have e:Qy k v q=some (.inl (q++ffGo spT [] v)):=by
   unfold Qy
   rw [x1t h1.2 (by omega)]
   simp only [Option.bind_some]
   rw [if_pos (by omega)]
  show (Qy k v q).bind _=_
  rw [e]
  have:=tagP V (k+1) (q++ffGo spT [] v) (fun x hx=>h x (List.mem_cons_of_mem _ hx)) (by rw [List.length_append]; omega)
  rw [show q++tgL (v::V)=(q++ffGo spT [] v)++tgL V from by simp [tgL]]
  exact this
theorem y2z (x:Bs) (h:x.length≤2000):z0j x=some (keyP x)∧z0p x=some (keyP x):=⟨x01 x (by omega),y81 x (by omega)⟩
theorem tagA (E:Unit→Option (List Bs×Int)):∀ (l pre:List Bs),(∀ x,x∈l→x.length≤2000)→rng (fun (k:Nat) (s:Unit)=>Qx (pre++l) k) E l.length pre.length ()=if l.all keyP then E () else some ([],5)
 | [],pre,_=>rfl
 | x::l,pre,h=>by
  have e1:(pre++x::l)[pre.length]?=some x:=by simp
  have hx:=h x (by simp)
  have e:Qx (pre++x::l) pre.length=if keyP x then some (.inl ()) else some (.inr ([],5)):=by
   unfold Qx
   rw [e1]
   simp only [Option.bind_some]
   rw [(y2z x hx).1]
   cases keyP x <;> rfl
  have ih:=tagA E l (pre++[x]) fun y hy=>h y (List.mem_cons_of_mem _ hy)
  rw [show (pre++[x])++l=pre++x::l by simp,show (pre++[x]).length=pre.length+1 by simp] at ih
  show (Qx (pre++x::l) pre.length).bind _=_
  rw [e,List.all_cons]
  cases keyP x
  ·rfl
  ·exact ih
theorem tagB:∀ (l:List Bs) (k:Nat) (q:List Bs),(∀ x,x∈l→x.length≤2000)→q.length+l.length≤100000000→forL (fun (k:Nat) (x:Bs) (s:(List Bs))=>Yw k x s) (fun (s:(List Bs))=>Yx s) k l q=if l.all keyP then Yx (q++l) else some ([],5)
 | [],k,q,_,_=>by simp [forL]
 | x::l,k,q,h,hl=>by
  simp only [List.length_cons] at hl
  have hx:=h x (by simp)
  have e:Yw k x q=if keyP x then some (.inl (q++[x])) else some (.inr ([],5)):=by
   unfold Yw
   rw [(y2z x hx).2]
   simp only [Option.bind_some]
   rw [if_pos (by omega:q.length+1≤1000000000)]
   cases keyP x <;> rfl
  have ih:=tagB l (k+1) (q++[x]) (fun y hy=>h y (List.mem_cons_of_mem _ hy)) (by simp; omega)
  show (Yw k x q).bind _=_
  rw [e,List.all_cons]
  cases keyP x
  ·rfl
  ·rw [show q++x::l=(q++[x])++l by simp]; exact ih
theorem y5w (a:ya) (h0:hdsE a.Headers=0) (h2:∀ x,x∈a.Headers→nmOK x):z3g a=some (tgR (tgL (yu tgN a.Headers)))∧z2y a=some (tgR (tgL (yu tgN a.Headers))):=by
 have hl:=z1c h0
 have hv:=xm a.Headers tgN (by omega) h2 ⟨rfl,by decide⟩
 have hf:∀ v,v∈yu tgN a.Headers→fldB v=true:=fun v hv=>by
  unfold yu at hv
  obtain ⟨x,hx,rfl⟩:=List.mem_map.1 hv
  exact (z63 h0 x (List.mem_filter.1 hx).1).2
 have hV:(yu tgN a.Headers).length≤50:=by
  unfold yu
  rw [List.length_map]
  have:=List.length_filter_le (nmB tgN) a.Headers
  omega
 unfold z3g z2y
 rw [show vy a.Headers [99,97,99,104,101,45,116,97,103]=some (yu tgN a.Headers) from hv.1,show jo a.Headers [99,97,99,104,101,45,116,97,103]=some (yu tgN a.Headers) from hv.2]
 simp only [Option.bind_some]
 generalize yu tgN a.Headers=V at *
 have hvl:∀ v,v∈V→v.length≤2000:=fun v h=>y4g (hf v h)
 have hva:∀ v,v∈V→ascB v=true:=fun v h=>z8h (y4f (hf v h))
 have hTl:=y1a V hvl
 have hTm:=y5u hvl
 have hJl:=z6t 2000 [32] V hvl
 have hJl:(Lib.join V [32]).length≤110000:=by
  have h50:V.length * (2000+([32]:Bs).length)≤50 * 2001:=Nat.mul_le_mul hV (by decide)
  omega
 have hJr:rgB (Lib.join V [32]) 32 126=true:=by
  unfold rgB
  refine List.all_eq_true.2 fun c hc => ?_
  rcases y3t V c hc with rfl | ⟨v,h1,h2⟩
  ·decide
  ·have:=y4f (hf v h1)
   unfold rgB at this
   exact List.all_eq_true.1 this c h2
 have hmapa:ascB ((Lib.join V [32]).map r44)=true:=by
  have:=z8h hJr
  unfold ascB at this ⊢
  rw [List.all_map]
  refine List.all_eq_true.2 fun c hc => ?_
  have h1:=List.all_eq_true.1 this c hc
  simp only [Function.comp_apply,r44]
  split
  ·decide
  ·exact h1
 have hF:Lib.fields ((Lib.join V [32]).map r44)=tgL V:=by
  unfold Lib.fields tgL
  rw [z9x,z9y _ _ hJr,y4l spT (by decide)]
 have hE:(xa (tgL V)).bind (fun (r12:((List Bs)))=>if decide (20 < (r12.length:Int)) then (some (([]:List Bs),(2:Int))) else (some (r12,0)))=some (if 20 < ((setB (tgL V)).length:Int) then ([],2) else (setB (tgL V),0)):=by
  unfold xa Yb
  rw [if_pos (by omega)]
  simp only [Option.bind_some]
  rw [z5g (tgL V) (by omega)]
  simp only [Option.bind_some]
  by_cases h:20 < ((setB (tgL V)).length:Int) <;> simp [h]
 have hE':Yx (tgL V)=some (if 20 < ((setB (tgL V)).length:Int) then ([],2) else (setB (tgL V),0)):=by
  unfold Yx
  rw [z5g (tgL V) (by omega)]
  by_cases h:20 < ((setB (tgL V)).length:Int) <;> simp [h]
 constructor
 ·rw [if_pos (by omega),tagP V 0 [] (fun v h=>⟨hvl v h,hva v h⟩) (by simp; omega),List.nil_append]
  unfold z1z
  rw [if_pos (by omega)]
  have:=tagA (fun (s:Unit)=>z4h (tgL V)) (tgL V) [] hTm
  rw [List.nil_append] at this
  refine this.trans ?_
  unfold tgR z4h
  rw [hE]
  cases (tgL V).all keyP <;> rfl
 ·unfold kh z56 z0c
  rw [if_pos ⟨by omega,by omega⟩]
  simp only [Option.bind_some]
  rw [if_pos ⟨by omega,by decide,by decide⟩]
  simp only [Option.bind_some]
  rw [y7u,if_pos ⟨hmapa,by rw [List.length_map]; omega⟩]
  simp only [Option.bind_some]
  rw [hF,if_pos (by omega),tagB (tgL V) 0 [] hTm (by simp; omega),List.nil_append,hE']
  unfold tgR
  cases (tgL V).all keyP <;> rfl
theorem y5t (T:List Bs):(tgR T).1.length≤20:=by
 unfold tgR
 split
 ·split
  ·simp
  ·simp only; omega
 ·simp
theorem x2f (l:List Int) (v:Int) (h:l.length≤1000000):∃ b,z2n l v=some b:=
 ⟨_,x1h (p:=fun x=>some (decide (v=x))) l (fun x=>decide (v=x)) (by omega) fun x hx=>rfl⟩
theorem z5t {l:List zm} (h0:hdsE l=0):∀ x,x∈l→nmOK x:=fun x hx=>⟨z45 (z63 h0 x hx).1,by have:=y08 (z63 h0 x hx).1; omega⟩
def auN:Bs:=[97,117,116,104,111,114,105,122,97,116,105,111,110]
def etN:Bs:=[101,116,97,103]
theorem y6s (r:yv) (a:ya) (h1:hdsE r.Headers=0) (h2:hdsE a.Headers=0):∃ q,z3h r a=some q∧z2z r a=some q:=by
 have n1:=z5t h1
 have n2:=z5t h2
 have l1:=z1c h1
 have l2:=z1c h2
 obtain ⟨p,p1,p2,p3⟩:=z8o r.Headers h1 n1
 obtain ⟨c,c1,c2,c3⟩:=z8o a.Headers h2 n2
 have hv:=z7p a h2 n2
 have ha:=xm r.Headers auN (by omega) n1 ⟨rfl,by decide⟩
 have he:=xm a.Headers etN (by omega) n2 ⟨rfl,by decide⟩
 obtain ⟨k,hk⟩:=x2f [200,203,204,300,301,404,410] a.Status (by decide)
 unfold z3h z2z
 simp only [p1,p2,Option.bind_some]
 by_cases e1:p.2=0
 ·simp only [e1,ne_eq,not_true_eq_false,decide_false,Bool.false_eq_true,if_false,c1,c2,Option.bind_some]
  by_cases e2:c.2=0
  ·simp only [e2,not_true_eq_false,decide_false,Bool.false_eq_true,if_false,hv.1,hv.2,Option.bind_some]
   generalize vyL (ptsB (yu vyN a.Headers))=V at *
   by_cases e3:V.2.2=0
   ·simp only [e3,not_true_eq_false,decide_false,Bool.false_eq_true,if_false]
    have hc:=c3 e2
    have hlt:=y2w hc
    have hsh:decide (c.1.Shared=-1)=decide (c.1.Shared < 0):=by
     have:=hc.2.1.1
     exact decide_eq_decide.2 ⟨fun h=>by omega,fun h=>by omega⟩
    have hau:xe r.Headers [97,117,116,104,111,114,105,122,97,116,105,111,110]=some (decide (0 < ((yu auN r.Headers).length:Int))):=by
     unfold xe
     rw [show vy r.Headers [97,117,116,104,111,114,105,122,97,116,105,111,110]=some (yu auN r.Headers) from ha.1]; rfl
    have het:xe a.Headers [101,116,97,103]=some (decide (0 < ((yu etN a.Headers).length:Int))):=by
     unfold xe
     rw [show vy a.Headers [101,116,97,103]=some (yu etN a.Headers) from he.1]; rfl
    have hau':jo r.Headers [97,117,116,104,111,114,105,122,97,116,105,111,110]=some (yu auN r.Headers):=ha.2
    have het':jo a.Headers [101,116,97,103]=some (yu etN a.Headers):=he.2
    have hJ:∀ v:Bool,∃ q,(if (!v) then (if !p.1.NoStore then (if !c.1.NoStore then (if !c.1.Private then (if !(((decide (0 < ((yu auN r.Headers).length:Int)) && (!c.1.Public)) && (!c.1.Must)) && (decide (c.1.Shared=(-1)))) then (if !V.2.1 then ((xd c.1).bind fun (r32:(Int))=>if decide (0 < r32) then (vd true) else ((xe a.Headers [101,116,97,103]).bind fun (r36:(Bool))=>vd r36)) else (vd false)) else (vd false)) else (vd false)) else (vd false)) else (vd false)) else (vd false))=some q∧Yy r a p c V v=some q:=by
     intro v
     unfold Yy z1h vd
     simp only [hau',het',het,hlt.1,hlt.2.1,hsh,Option.bind_some]
     by_cases hpos:0 < ltV c.1
     ·simp only [hpos,decide_true,if_true]
      cases v <;> cases p.1.NoStore <;> cases c.1.NoStore <;> cases c.1.Private <;> cases V.2.1 <;> cases decide (0 < ((yu auN r.Headers).length:Int)) <;> cases c.1.Public <;> cases c.1.Must <;> cases decide (c.1.Shared < 0) <;> exact ⟨_,rfl,rfl⟩
     ·simp only [hpos,decide_false,Bool.false_eq_true,if_false]
      cases v <;> cases p.1.NoStore <;> cases c.1.NoStore <;> cases c.1.Private <;> cases V.2.1 <;> cases decide (0 < ((yu auN r.Headers).length:Int)) <;> cases c.1.Public <;> cases c.1.Must <;> cases decide (c.1.Shared < 0) <;> exact ⟨_,rfl,rfl⟩
    unfold z6i z6j
    simp only [hau,hk,Option.bind_some]
    by_cases g1:r.Method=[71,69,84]
    ·have:=hJ (!k)
     simpa [g1] using this
    ·by_cases g2:r.Method=[72,69,65,68]
     ·have:=hJ (!k)
      simpa [g1,g2] using this
     ·have:=hJ true
      simpa [g1,g2] using this
   ·exact ⟨(false,V.2.2),by simp [e3],by simp [e3]⟩
  ·exact ⟨(false,c.2),by simp [e2],by simp [e2]⟩
 ·exact ⟨(false,p.2),by simp [e1],by simp [e1]⟩
theorem y8q (a:ya) (h2:hdsE a.Headers=0) (h3:jt a=some 0):∃ q,xf a=some q∧z22 a=some q:=by
 have n2:=z5t h2
 obtain ⟨c,c1,c2,c3⟩:=z8o a.Headers h2 n2
 have hv:=z7p a h2 n2
 unfold xf z22
 simp only [h3,c1,c2,hv.1,hv.2,Option.bind_some,ne_eq,not_true_eq_false,decide_false,Bool.false_eq_true,if_false]
 by_cases e2:c.2=0
 ·have hlt:=y2w (c3 e2)
  simp only [e2,not_true_eq_false,decide_false,Bool.false_eq_true,if_false,hlt.1,hlt.2.1,Option.bind_some]
  by_cases e3:(vyL (ptsB (yu vyN a.Headers))).2.2=0
  ·exact ⟨(ltV c.1,0),by simp [e3],by simp [e3]⟩
  ·exact ⟨(0,(vyL (ptsB (yu vyN a.Headers))).2.2),by simp [e3],by simp [e3]⟩
 ·exact ⟨(0,c.2),by simp [e2],by simp [e2]⟩
theorem y1s (r:yv) (a:ya) (hr:rqP r) (ha:hdsP a.Headers):Qt a.Status a.Headers a.Body r.At r.Method r.Host r.Path r.Query r.From r.Headers r.Body=some true:=by
 obtain ⟨e,q1,q2,q3⟩:=y7p r hr
 obtain ⟨f,a1,a2,a3⟩:=y7o a ha
 have er:yv.mk r.At r.Method r.Host r.Path r.Query r.From r.Headers r.Body=r:=rfl
 have ea:ya.mk a.Status a.Headers a.Body=a:=rfl
 unfold Qt
 rw [er,ea]
 have hk:z0x=some true:=y82
 have hself:∀ l:List Bs,l.length≤1000000→Ya l l=some true:=fun l h=>by rw [eqY l l (by omega)]; simp
 have hend:∀ (p4:Bool×Int) (p6:Int×Int) (p8:List Bs×Bool×Int) (p0:List Bs×Int),p8.1.length≤1000000→p0.1.length≤1000000→Qs p6 p8 p0 p6.1 p8.2.1 p8.1 p0.1 p6.2 p8.2.2 p0.2=some true:=by
  intro p4 p6 p8 p0 l1 l2
  unfold Qs kk
  simp [hself _ l1,hself _ l2,hk]
 by_cases hf:f=0
 ·subst hf
  have h2:=a3 rfl
  have n2:=z5t h2
  have hv:=z7p a h2 n2
  have ht:=y5w a h2 n2
  obtain ⟨w,w1,w2⟩:=y8q a h2 a1
  have hV:Yi a=some (vyL (ptsB (yu vyN a.Headers))):=by
   unfold Yi
   rw [a1]
   simp only [Option.bind_some,ne_eq,not_true_eq_false,decide_false,Bool.false_eq_true,if_false,hv.1]
  have hT:Yj a=some (tgR (tgL (yu tgN a.Headers))):=by
   unfold Yj
   rw [a1]
   simp only [Option.bind_some,ne_eq,not_true_eq_false,decide_false,Bool.false_eq_true,if_false,ht.1]
  have hvl:(vyL (ptsB (yu vyN a.Headers))).1.length≤1000000:=by have:=y5b (P:=ptsB (yu vyN a.Headers)); omega
  have htl:(tgR (tgL (yu tgN a.Headers))).1.length≤1000000:=by have:=y5t (tgL (yu tgN a.Headers)); omega
  have hJ2:∀ s:Bool×Int,Zj a.Status a.Headers a.Body s w (vyL (ptsB (yu vyN a.Headers))) (tgR (tgL (yu tgN a.Headers))) 0 s.2 s.1=some true:=by
   intro s
   unfold Zj
   rw [ea,w2,hv.2,ht.2]
   simp only [Option.bind_some,ne_eq,not_true_eq_false,decide_false,Bool.false_or,bne_self_eq_false,Bool.false_eq_true,if_false,decide_true,if_true]
   exact hend s w _ _ hvl htl
  rw [w1,hV,hT,a2,q2]
  unfold z0z
  simp only [Option.bind_some,q1,a1]
  rw [y4n]
  simp only [Option.bind_some]
  by_cases he:e=0
  ·subst he
   obtain ⟨s,s1,s2⟩:=y6s r a (q3 rfl).1 h2
   simp only [s1,s2,ne_eq,not_true_eq_false,decide_false,Bool.false_eq_true,if_false,Option.bind_some,decide_true,if_true]
   exact hJ2 s
  ·simp only [he,ne_eq,not_false_eq_true,decide_true,if_true,Option.bind_some,if_false,decide_false,Bool.false_eq_true]
   exact hJ2 (false,e)
 ·have hL:xf a=some (0,f):=by unfold xf; rw [a1]; simp [hf]
  have hV:Yi a=some ([],false,f):=by unfold Yi; rw [a1]; simp [hf]
  have hT:Yj a=some ([],f):=by unfold Yj; rw [a1]; simp [hf]
  have hS:z0z r a=some (false,if e≠0 then e else f):=by
   unfold z0z
   rw [q1,a1]
   by_cases he:e=0 <;> simp [he,hf]
  rw [hS,hL,hV,hT,a2,q2]
  simp only [Option.bind_some]
  rw [y4n]
  simp only [Option.bind_some]
  have hne:¬ (if e≠0 then e else f)=0:=by split <;> assumption
  generalize (if e≠0 then e else f)=g at *
  rw [if_neg (by simpa using hne)]
  unfold Zj
  simp only [hf,ne_eq,not_true_eq_false,decide_false,Bool.false_or,bne_self_eq_false,Bool.false_eq_true,if_false]
  exact hend (false,g) (0,f) ([],false,f) ([],f) (by simp) (by simp)
theorem y7l (L:List Int):z6h L=some true:=by
 refine y8b ?_
 unfold z6h
 refine zr (x2n (k:=0) ⟨by simp,by simp⟩ (by omega) 0) fun r2 h2=>zr (x2m h2.2 (by omega)) fun r4 h4=>zr (wm h4.2 (by omega) 10 (by omega)) fun r6 h6=>yz (fun _ => ?_) (fun _ => ?_)
 ·refine zr (y7r h6 (by omega)) fun r9 h9=>zr (y7n h9.2 (by omega)) fun r11 h11 => ?_
  rw [y1s r9.1 r11.1 h9.1 h11.1]
  exact ym rfl
 ·rw [y1s r2.1 r4.1 h2.1.1 (y35 h4.1 (by omega))]
  exact ym rfl
end Go.Proofs.YtkldmhhbbceaoaaGreatDoor
