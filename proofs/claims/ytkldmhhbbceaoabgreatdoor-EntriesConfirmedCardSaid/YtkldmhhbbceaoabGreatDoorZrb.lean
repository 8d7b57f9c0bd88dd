/- Plain: the law EntriesConfirmed is true for every list of numbers. -/
import Derived.Test.YtkldmhhbbceaoabGreatDoorCqZr
namespace Go.Proofs.YtkldmhhbbceaoabGreatDoor
set_option linter.unusedVariables false
set_option maxRecDepth 20000
theorem y0y {α:Type} {body:Nat→α→Unit→Option (Unit ⊕ Int)} {fin:Unit→Option Int} {e:Nat→α→Int}:∀ (l:List α) (k:Nat),(∀ j x,k≤j→l[j - k]?=some x→body j x ()=if e j x≠0 then some (.inr (e j x)) else some (.inl ()))→forL body fin k l ()=if feI e k l≠0 then some (feI e k l) else fin ()
 | [],k,h=>by simp [forL,feI]
 | x::l,k,h=>by
  have h1:=h k x (Nat.le_refl _) (by simp)
  show (body k x ()).bind _=_
  rw [h1]
  by_cases hp:e k x≠0
  ·simp [feI,hp,after]
  ·simp only [feI,hp,if_false,Option.bind_some,after]
   refine y0y l (k+1) fun j y hj hy=>h j y (by omega) ?_
   obtain ⟨m,hm⟩:∃ m,j - k=m+1:=⟨j - k - 1,by omega⟩
   rw [hm,List.getElem?_cons_succ]
   have:j - (k+1)=m:=by omega
   rw [this] at hy; exact hy
theorem y6w {α:Type} {p:Nat→α→Bool}:∀ (l:List α) (k:Nat),allI p k l=true↔∀ j x,l[j]?=some x→p (k+j) x=true
 | [],k=>by simp [allI]
 | x::l,k=>by
  simp only [allI,Bool.and_eq_true,y6w l (k+1)]
  constructor
  ·rintro ⟨h1,h2⟩ j y hj
   cases j with
   | zero=>simp at hj; subst hj; exact h1
   | succ j=>have:=h2 j y (by simpa using hj); rwa [show k+1+j=k+(j+1) by omega] at this
  ·intro h
   refine ⟨h 0 x rfl,fun j y hj => ?_⟩
   have:=h (j+1) y (by simpa using hj)
   rwa [show k+(j+1)=k+1+j by omega] at this
theorem eqY (a b:List Bs) (h:a.length≤1000000000):z3m a b=some (decide (a=b)):=by
 unfold z3m
 by_cases hl:a.length=b.length
 ·rw [if_neg (by simp [hl]),if_pos h,Zz (p:=fun k x=>decide (b[k]?=some x)) (e:=true) (r0:=false) rfl a 0 fun j x _ hx => ?_]
  ·have:allI (fun k x=>decide (b[k]?=some x)) 0 a=decide (a=b):=by
    rw [Bool.eq_iff_iff,y6w]
    simp only [Nat.zero_add,decide_eq_true_eq]
    constructor
    ·intro h
     apply List.ext_getElem?
     intro j
     cases hj:a[j]? with
     | some x=>rw [h j x hj]
     | none=>rw [List.getElem?_eq_none_iff] at hj; rw [eq_comm,List.getElem?_eq_none_iff]; omega
    ·rintro rfl j x hj; exact hj
   rw [this]
   cases decide (a=b) <;> rfl
  ·have hx:a[j]?=some x:=by simpa using hx
   have hj:=z1n hx
   obtain ⟨y,hy⟩:∃ y,b[j]?=some y:=⟨_,List.getElem?_eq_getElem (by omega)⟩
   unfold z6l
   rw [hy]
   simp only [Option.bind_some]
   by_cases hxy:x=y
   ·simp [hxy]
   ·have:¬ y=x:=fun e=>hxy e.symm
    simp [hxy,this]
 ·have:¬ a=b:=fun e=>hl (by rw [e])
  rw [if_pos (by simp; omega)]
  simp [this]
def vyN:Bs:=[118,97,114,121]
def vyL (P:List Bs):List Bs×Bool×Int:=if P.all tokB then (if P.any (fun x=>decide (x=[42])) then ([],true,0) else if 10 < ((setB (P.map lo)).length:Int) then ([],false,2) else (setB (P.map lo),false,0)) else ([],false,9)
theorem y4f {x:Bs} (h:tokB x=true):jw x=some (lo x):=x05 ⟨z6b h,by have:=z6a h; omega⟩
theorem x06 (x:Bs):decide (([42]:Bs)=lo x)=decide (x=[42]):=by
 rw [decide_eq_decide]
 constructor
 ·intro h
  unfold lo Lib.toLowerA at h
  cases x with
  | nil=>simp at h
  | cons c t =>
   simp only [List.map_cons,List.cons.injEq] at h
   obtain ⟨h1,h2⟩:=h
   have:=kf (fun c => !(Lib.lowerB c == 42) || c == 42) (by decide +kernel) c
   rw [← h1] at this
   have h3:c=42:=by simpa using this
   have h4:t=[]:=by simpa using h2.symm
   rw [h3,h4]
 ·rintro rfl; decide +kernel
theorem vyP:∀ (l pre:List Bs),(∀ x,x∈l→x.length≤2000)→rng (fun (k:Nat) (s:(List Bs))=>z0b k s) (fun (s:(List Bs))=>Yb s) l.length pre.length (pre++l)=if l.all tokB then Yb (pre++l.map lo) else some ([],false,9)
 | [],pre,_=>by simp [rng]
 | x::l,pre,h=>by
  have e1:(pre++x::l)[pre.length]?=some x:=by simp
  have e3:pre.length+1=(pre++[lo x]).length:=by simp
  have hst:z0b pre.length (pre++x::l)=if tokB x then some (.inl ((pre++[lo x])++l)) else some (.inr ([],false,9)):=by
   have e2:(pre++x::l).set pre.length (lo x)=(pre++[lo x])++l:=by simp
   unfold z0b
   rw [e1]
   simp only [Option.bind_some]
   rw [z1w x (by have:=h x (by simp); omega)]
   simp only [Option.bind_some]
   cases ht:tokB x
   ·rfl
   ·rw [if_neg (by simp),y4f ht]
    simp only [Option.bind_some]
    rw [e2]; rfl
  show (z0b pre.length (pre++x::l)).bind _=_
  rw [hst]
  cases ht:tokB x
  ·simp [ht,after]
  ·simp only [if_true,Option.bind_some,after]
   rw [e3,vyP l (pre++[lo x]) fun y hy=>h y (List.mem_cons_of_mem _ hy)]
   simp [ht]
theorem vyR:∀ (l:List Bs) (k:Nat) (b:Bool) (q:List Bs),(∀ x,x∈l→x.length≤2000)→q.length+l.length≤10000000→forL (fun (k:Nat) (x:Bs) (s:Bool×(List Bs))=>Qu k x s.1 s.2) (fun (s:Bool×(List Bs))=>z15 s.1 s.2) k l (b,q)=if l.all tokB then z15 (b || l.any fun x=>decide (x=[42])) (q++l.map lo) else some ([],false,9)
 | [],k,b,q,_,_=>by simp [forL]
 | x::l,k,b,q,h,hq=>by
  simp only [List.length_cons] at hq
  have hst:Qu k x b q=if tokB x then some (.inl (b || decide (x=[42]),q++[lo x])) else some (.inr ([],false,9)):=by
   unfold Qu
   rw [z8u x (by have:=h x (by simp); omega)]
   simp only [Option.bind_some]
   cases ht:tokB x
   ·rfl
   ·rw [if_neg (by simp),y4f ht]
    simp only [Option.bind_some]
    rw [if_pos (by omega)]; rfl
  show (Qu k x b q).bind _=_
  rw [hst]
  cases ht:tokB x
  ·simp [ht,after]
  ·simp only [if_true,Option.bind_some,after]
   rw [vyR l (k+1) (b || decide (x=[42])) (q++[lo x]) (fun y hy=>h y (List.mem_cons_of_mem _ hy)) (by simp; omega)]
   simp [ht,Bool.or_assoc]
theorem z6j (l:List Bs) (h:l.length≤10000000) {β:Type} (f:List Bs→Option β):((uf l).bind fun r=>(Zi r).bind fun r2=>f r2)=f (setB l):=by
 unfold uf Zi
 rw [if_pos (by omega)]
 simp only [Option.bind_some]
 rw [if_pos (by simp; omega)]
 rfl
theorem y6s:∀ l:List Bs,(l.map lo).any (fun x=>decide (([42]:Bs)=x))=l.any fun x=>decide (x=[42])
 | []=>rfl
 | x::l=>by rw [List.map_cons,List.any_cons,List.any_cons,x06,y6s l]
theorem y68 (a:zx) (h0:hdsE a.Headers=0) (h2:∀ x,x∈a.Headers→nmOK x):Zq a=some (vyL (ptsB (wc vyN a.Headers)))∧z3y a=some (vyL (ptsB (wc vyN a.Headers))):=by
 have hl:=Qr h0
 have hv:=z2z a.Headers vyN (by omega) h2 ⟨rfl,by decide⟩
 have hV:=y69 h0 vyN
 have hp1:=z9m _ hV
 have hp2:=x0p _ hV
 have hpl:=x0i _ hV
 have hm:∀ x,x∈ptsB (wc vyN a.Headers)→x.length≤2000:=fun x hx=>by
  obtain ⟨v,hv1,hv2,_⟩:=x0h hx
  have:=hV.2 v hv1
  omega
 unfold Zq z3y
 show (kj a.Headers vyN).bind _=_∧(uo a.Headers vyN).bind _=_
 rw [hv.1,hv.2]
 simp only [Option.bind_some]
 rw [hp1,hp2]
 simp only [Option.bind_some]
 generalize ptsB (wc vyN a.Headers)=P at *
 rw [if_pos (by omega),if_pos (by omega)]
 have a1:=vyP P [] hm
 have a2:=vyR P 0 false [] hm (by simp; omega)
 simp only [List.length_nil,List.nil_append,Bool.false_or] at a1 a2
 rw [a1,a2]
 unfold vyL
 cases P.all tokB
 ·simp
 ·simp only [if_true]
  have hi:=y0q (P.map lo) [42] (by simp; omega)
  have hk:xk (P.map lo)=some (setB (P.map lo)):=by
   unfold xk wu
   rw [if_pos (by simp; omega)]
   simp only [Option.bind_some]
   exact z6j (P.map lo) (by simp; omega) fun r=>some r
  unfold Yb z15 z3o
  rw [hi,hk]
  simp only [Option.bind_some]
  have hd:decide (0≤idxB (P.map lo) [42])=P.any fun x=>decide (x=[42]):=by
   unfold idxB
   rw [y55,y6s]
  rw [hd]
  cases P.any fun x=>decide (x=[42])
  ·simp only [Bool.false_eq_true,if_false]
   rw [z6j (P.map lo) (by simp; omega) fun r15=>if decide (10 < (r15.length:Int)) then (some ([],false,2)) else (some (r15,false,0))]
   by_cases h10:10 < ((setB (P.map lo)).length:Int)
   ·rw [if_pos (by simpa using h10),if_pos h10]; exact ⟨rfl,rfl⟩
   ·rw [if_neg (by simpa using h10),if_neg h10]; exact ⟨rfl,rfl⟩
  ·exact ⟨rfl,rfl⟩
def agN:Bs:=[97,103,101]
def agV (e:zy):Int:=match (wc agN e.Response.Headers)[0]? with | some x=>if sOK x then nOf x else 0 | none=>0
def enP (e:zy):Prop:=(rqA e.Request∧qOK e.Request.Query)∧haP 100 e.Response.Headers∧e.Tags.length≤100∧∀ t,t∈e.Tags→t.length≤1000
theorem z5c {n:Nat} {l:List zd} (h:haP n l):∀ x,x∈l→nmOK x:=fun x hx=>(h.2 x hx).2
theorem y3o (r:zx) (h:hdsP r.Headers):∃ e,ug r=some e∧Qb r=some e∧(e=0→hdsE r.Headers=0):=by
 obtain ⟨e,e1,e2⟩:=y97 r h
 refine ⟨e,e1,e2,fun h0 => ?_⟩
 subst h0
 have hh:=z13 r.Headers h
 unfold ug at e1
 rw [z6t,hh.1] at e1
 simp only [Option.bind_some] at e1
 by_cases h0:hdsE r.Headers=0
 ·exact h0
 ·split at e1
  ·simp at e1
  ·rw [if_pos (by simpa using h0)] at e1
   exact absurd (Option.some.inj e1) h0
def tgE (l:List Bs) (k:Nat) (x:Bs):Int:=if keyP x then (match (if 0 < k then l[k - 1]? else none) with | some y=>if Op.bytesLess x y || x == y then 7 else 0 | none=>0) else 5
theorem y2g (l:List Bs) (h:∀ t,t∈l→t.length≤1000) (e:zy) (he:e.Tags=l) (j:Nat) (x:Bs) (hx:l[j]?=some x) :
  z1q l j x=(if tgE l j x≠0 then some (.inr (tgE l j x)) else some (.inl ()))∧z2c e j x=(if tgE l j x≠0 then some (.inr (tgE l j x)) else some (.inl ())):=by
 have hxl:=h x (List.mem_of_getElem? hx)
 unfold z1q z2c z1r z2d tgE
 rw [y5f x (by omega),y4i x (by omega),he]
 simp only [Option.bind_some]
 cases keyP x
 ·simp
 ·cases j with
  | zero=>simp
  | succ j =>
   have hj:((j+1:Nat):Int) - 1=(j:Int):=by omega
   have hlt:=z1n hx
   obtain ⟨y,hy⟩:∃ y,l[j]?=some y:=⟨_,List.getElem?_eq_getElem (by omega)⟩
   rw [hj,y6r,hy]
   simp only [Bool.not_true,Bool.false_eq_true,if_false,Option.bind_some,if_true,Nat.zero_lt_succ,Nat.add_sub_cancel,hy]
   cases (Op.bytesLess x y || x == y) <;> simp
theorem x4v (e:zy) (a b:Int):forL (fun (k:Nat) (x:Int) (s:Unit)=>z5g k x) (fun (s:Unit)=>z2f e) 0 [a,b] ()=if a≠0 then some a else if b≠0 then some b else z2f e:=by
 rw [y0y [a,b] 0 (e:=fun _ x=>x) (fun j x _ _=>by unfold z5g; by_cases h:x=0 <;> simp [h])]
 simp only [feI]
 by_cases h:a=0
 ·by_cases h2:b=0
  ·simp [h,h2]
  ·simp [h,h2]
 ·simp [h]
theorem y59 (e:zy) (h:enP e):∃ f,Zs e=some f∧Qf e=some f ∧
  (f=0→xj e.Request=some 0∧hdsE e.Response.Headers=0∧momP e.At=true∧(vyL (ptsB (wc vyN e.Response.Headers))).2.2=0):=by
 obtain ⟨⟨⟨hr,hr2⟩,hq⟩,ha,ht,ht2⟩:=h
 obtain ⟨e1,a1,a2,a3⟩:=y3p e.Request hr
 obtain ⟨e2,b1,b2,b3⟩:=y3o e.Response (z7z ha (by omega))
 unfold Zs Qf
 rw [a1,a2,b1,b2]
 simp only [Option.bind_some]
 rw [if_pos (show ([e1,e2]:List Int).length≤1000000000 by simp),x4v]
 by_cases z1:e1=0
 ·subst z1
  simp only [ne_eq,not_true_eq_false,decide_false,Bool.false_eq_true,if_false]
  by_cases z2:e2=0
  ·subst z2
   have h0:=b3 rfl
   obtain ⟨v1,v2⟩:=y68 e.Response h0 (z5c ha)
   simp only [not_true_eq_false,decide_false,Bool.false_eq_true,if_false]
   unfold z2f
   rw [z4s,z4s,z6y,z6y]
   simp only [Option.bind_some]
   have hJ:∀ b:Bool,z0h e b=Zx e b∧∃ f,Zx e b=some f∧(f=0→b=false∧(vyL (ptsB (wc vyN e.Response.Headers))).2.2=0):=fun b=>by
    unfold z0h Zx z7c
    cases b
    ·simp only [Bool.false_eq_true,if_false]
     by_cases h20:20 < (e.Tags.length:Int)
     ·have h2p:decide (20 < (e.Tags.length:Int))=true:=by simpa using h20
      rw [if_pos h2p,if_pos h2p]
      exact ⟨rfl,2,rfl,by simp⟩
     ·have h2n:¬ decide (20 < (e.Tags.length:Int))=true:=by simpa using h20
      have hln:e.Tags.length≤1000000000:=by omega
      rw [if_neg h2n,if_neg h2n,if_pos hln,if_pos hln]
      have t1:forL (fun (k:Nat) (x:Bs) (s:Unit)=>z1q e.Tags k x) (fun (s:Unit)=>z7l) 0 e.Tags ()=some (feI (tgE e.Tags) 0 e.Tags):=
       z8b rfl e.Tags 0 fun j x _ hx=>(y2g e.Tags ht2 e rfl j x (by simpa using hx)).1
      have t2:forL (fun (k:Nat) (x:Bs) (s:Unit)=>z2c e k x) (fun (s:Unit)=>z2e e) 0 e.Tags ()=if feI (tgE e.Tags) 0 e.Tags≠0 then some (feI (tgE e.Tags) 0 e.Tags) else z2e e:=
       y0y e.Tags 0 fun j x _ hx=>(y2g e.Tags ht2 e rfl j x (by simpa using hx)).2
      rw [t1,t2]
      simp only [Option.bind_some]
      unfold z2e
      rw [v1,v2]
      simp only [Option.bind_some]
      by_cases hf:feI (tgE e.Tags) 0 e.Tags=0
      ·rw [if_neg (show ¬ decide (feI (tgE e.Tags) 0 e.Tags≠0)=true by simpa using hf),if_neg (show ¬ feI (tgE e.Tags) 0 e.Tags≠0 by simpa using hf)]
       exact ⟨rfl,_,rfl,fun h=>⟨trivial,h⟩⟩
      ·rw [if_pos (show decide (feI (tgE e.Tags) 0 e.Tags≠0)=true by simpa using hf),if_pos hf]
       exact ⟨rfl,_,rfl,fun h=>absurd h hf⟩
    ·exact ⟨rfl,1,rfl,by simp⟩
   cases hm:momP e.At
   ·obtain ⟨j1,f,j2,j3⟩:=hJ true
    simp only [Bool.not_false,if_true]
    rw [j1,j2]
    exact ⟨f,rfl,rfl,fun h=>by have:=(j3 h).1; cases this⟩
   ·obtain ⟨j1,f,j2,j3⟩:=hJ (!momP e.Used)
    simp only [Bool.not_true,Bool.false_eq_true,if_false]
    rw [j1,j2]
    exact ⟨f,rfl,rfl,fun h=>⟨trivial,h0,trivial,(j3 h).2⟩⟩
  ·rw [if_pos (show decide (¬e2=0)=true by simpa using z2),if_pos z2]
   exact ⟨e2,rfl,rfl,fun h=>absurd h z2⟩
 ·rw [if_pos (show decide (e1≠0)=true by simpa using z1),if_pos z1]
  exact ⟨e1,rfl,rfl,fun h=>absurd h z1⟩
def rqS (r:ya):Prop:=rqA r∧qOK r.Query
theorem y6n {k:Int} {s:zn} (h:SB k s) (hk:k≤50000) (v:Int):Ok (z1i s v) fun r=>rqS r.1∧SB (k+400) r.2:=by
 have hJ5:∀ (r3 r5:Bs×zn) (l:List zd) (c:List Int) (a:Int) (p q:Bs),r3.1.length≤100→r5.1∈jp→p.length≤100000→q.length≤100000∧qOK q→haP 20 l→SB (k+400) (zn.mk c a)→Ok (Wq v r3 r5 l c a p q) fun r=>rqS r.1∧SB (k+400) r.2:=by
  intro r3 r5 l c a p q h1 h2 h3 h4 h5 hs
  unfold Wq
  exact yq ⟨⟨⟨⟨by show r3.1.length≤_; omega,h2,h3,h4.1,by simp,z7z h5 (by omega)⟩,vq h5 (by omega)⟩,h4.2⟩,hs⟩
 have hJ4:∀ (r3 r5 r7 r9:Bs×zn) (c:List Int) (a:Int) (l:List zd),r3.1.length≤100→r5.1∈jp→r7.1.length≤100→r9.1.length≤100∧qOK r9.1→haP 20 l→SB (k+100) (zn.mk c a)→Ok (Wr v r3 r5 r7 r9 c a l) fun r=>rqS r.1∧SB (k+400) r.2:=by
  intro r3 r5 r7 r9 c a l h1 h2 h3 h4 h5 hs
  unfold Wr
  refine yb (vd hs (by omega) 40 (by omega)) fun r hr=>wb (fun _ => ?_) (fun _=>hJ5 _ _ _ _ _ _ _ h1 h2 (by omega) ⟨by omega,h4.2⟩ h5 (hr.mono (by omega)))
  exact yb (x0n hr (by omega)) fun r50 h50=>yb (x0f h50.2 (by omega)) fun r52 h52=>hJ5 _ _ _ _ _ _ _ h1 h2 h50.1 ⟨by have:=h52.1.1; omega,h52.1.2⟩ h5 (h52.2.mono (by omega))
 have hJ3:∀ (r3 r5 r7 r9:Bs×zn) (c:List Int) (a:Int) (l:List zd),r3.1.length≤100→r5.1∈jp→r7.1.length≤100→r9.1.length≤100∧qOK r9.1→haP 10 l→SB (k+80) (zn.mk c a)→Ok (Ws v r3 r5 r7 r9 c a l) fun r=>rqS r.1∧SB (k+400) r.2:=by
  intro r3 r5 r7 r9 c a l h1 h2 h3 h4 h5 hs
  unfold Ws
  refine yb (vd hs (by omega) 8 (by omega)) fun r hr=>wb (fun _ => ?_) (fun _=>hJ4 _ _ _ _ _ _ _ h1 h2 h3 h4 (vq h5 (by omega)) (hr.mono (by omega)))
  exact yb (kw hr (by omega) 100 _ ⟨by simp,by simp⟩ (by decide)) fun r41 h41=>ok_g (by have:=h5.1; omega) (hJ4 _ _ _ _ _ _ _ h1 h2 h3 h4 (vq (z5b h5 _ _ ⟨rfl,by simp⟩ (by have:=h41.1; omega)) (by omega)) (h41.2.mono (by omega)))
 have hJ2:∀ (r3 r5 r7 r9:Bs×zn) (c:List Int) (a:Int) (l:List zd),r3.1.length≤100→r5.1∈jp→r7.1.length≤100→r9.1.length≤100∧qOK r9.1→haP 5 l→SB (k+70) (zn.mk c a)→Ok (Wt v r3 r5 r7 r9 c a l) fun r=>rqS r.1∧SB (k+400) r.2:=by
  intro r3 r5 r7 r9 c a l h1 h2 h3 h4 h5 hs
  unfold Wt
  refine yb (vd hs (by omega) 12 (by omega)) fun r hr=>wb (fun _ => ?_) (fun _=>hJ3 _ _ _ _ _ _ _ h1 h2 h3 h4 (vq h5 (by omega)) (hr.mono (by omega)))
  exact ok_g (by have:=h5.1; omega) (hJ3 _ _ _ _ _ _ _ h1 h2 h3 h4 (vq (z5b h5 _ _ ⟨rfl,by simp⟩ (by simp)) (by omega)) (hr.mono (by omega)))
 have hJ1:∀ (r3 r5 r7 r9:Bs×zn) (c:List Int) (a:Int) (l:List zd),r3.1.length≤100→r5.1∈jp→r7.1.length≤100→r9.1.length≤100∧qOK r9.1→haP 2 l→SB (k+30) (zn.mk c a)→Ok (Wu v r3 r5 r7 r9 c a l) fun r=>rqS r.1∧SB (k+400) r.2:=by
  intro r3 r5 r7 r9 c a l h1 h2 h3 h4 h5 hs
  unfold Wu
  refine yb (vd hs (by omega) 4 (by omega)) fun r hr=>wb (fun _ => ?_) (fun _=>hJ2 _ _ _ _ _ _ _ h1 h2 h3 h4 (vq h5 (by omega)) (hr.mono (by omega)))
  exact yb (x5r hr (by omega)) fun r25 h25=>ok_g (by have:=h5.1; omega) (hJ2 _ _ _ _ _ _ _ h1 h2 h3 h4 (vq (z5b h5 _ _ ⟨rfl,by simp⟩ h25.1) (by omega)) (h25.2.mono (by omega)))
 unfold z1i
 refine yb (kw h (by omega) 100 _ ⟨by simp,by simp⟩ (by decide)) fun r3 h3=>yb (ue h3.2 (by omega) _ ⟨by simp,by simp⟩) fun r5 h5=>yb (kw h5.2 (by omega) 100 _ ⟨by simp,by simp⟩ (by decide)) fun r7 h7=>yb (ue h7.2 (by omega) _ ⟨by simp,by simp⟩) fun r9 h9=>yb (vd h9.2 (by omega) 3 (by omega)) fun r11 h11 => ?_
 have h9q:r9.1.length≤100∧qOK r9.1:=by
  have hm:=h9.1
  simp only [List.mem_cons,List.not_mem_nil,or_false] at hm
  rcases hm with e | e | e | e <;> rw [e] <;> exact ⟨by decide,.inl (by decide)⟩
 have hh:r5.1∈jp:=(show ∀ x,x∈([[97,46,98],[97,46,98],[65,46,66,58,56,48],[99,46,100]]:List Bs)→x∈jp by decide +kernel) _ h5.1
 refine wb (fun _ => ?_) (fun _=>hJ1 _ _ _ _ _ _ _ h3.1 hh h7.1 h9q (z7y 2) (h11.mono (by omega)))
 exact yb (z6k h11 (by omega) 3000 _ ⟨by simp,by simp⟩ (by decide +kernel)) fun r14 h14=>yb (kw h14.2 (by omega) 100 _ ⟨by simp,by simp⟩ (by decide)) fun r16 h16=>ok_g (by simp) (hJ1 _ _ _ _ _ _ _ h3.1 hh h7.1 h9q (vq (z5b (z7y 0) _ _ h14.1 (by have:=h16.1; omega)) (by omega)) (h16.2.mono (by omega)))
theorem x41 {k:Int} {s:zn} (h:SB k s) (hk:k≤4000):Ok (z38 s) fun r=>enP r.1∧SB (k+620) r.2:=by
 unfold z38
 refine yb (y6n h (by omega) 0) fun r2 h2=>yb (y6m h2.2 (by omega)) fun r4 h4=>yb (z6s h4.2 (by omega) _ ⟨by simp,by simp⟩) fun r6 h6=>yb (ul h6.2 (by omega) 3 (by omega)) fun r8 h8 => ?_
 have hJ:∀ (c30:List Int) (c31:Int) (c32:Bs) (c33:Int) (c34:List Bs) (c35:Int),SB (k+620) (zn.mk c30 c31)→c32∈jp→(c34.length≤100∧∀ t,t∈c34→t.length≤1000)→Ok (xt r2 r4 c30 c31 c32 c33 c34 c35) fun r=>enP r.1∧SB (k+620) r.2:=by
  intro c30 c31 c32 c33 c34 c35 hs hh ht
  obtain ⟨⟨⟨⟨q1,q2,q3,q4,q5,q6⟩,qA⟩,qq⟩,_⟩:=h2
  exact yq ⟨⟨⟨⟨⟨q1,hh,q3,q4,q5,q6⟩,qA⟩,qq⟩,h4.1,ht⟩,hs⟩
 obtain ⟨⟨n1,n2,_⟩,n4⟩:=h8
 have hx:∃ x,at? ([[],[[114,101,100]],[[98,108,117,101],[114,101,100]]]:List (List Bs)) r8.1=some x∧(x.length≤100∧∀ t,t∈x→t.length≤1000):=by
  have:=n2 (by omega)
  rcases (show r8.1=0∨r8.1=1∨r8.1=2 by omega) with e | e | e <;> rw [e] <;> exact ⟨_,rfl,by decide,by decide⟩
 obtain ⟨x10,x1,x2⟩:=hx
 have hhost:r2.1.Host∈jp:=h2.1.1.1.2.1
 rw [x1]
 simp only [Option.bind_some]
 refine yb (vd n4 (by omega) 20 (by omega)) fun r12 h12=>wb (fun _ => ?_) (fun _=>hJ _ _ _ _ _ _ (h12.mono (by omega)) hhost x2)
 refine yb (ul h12 (by omega) 4 (by omega)) fun r15 h15 => ?_
 refine wb (fun _=>yb (z6v h15.2 (by omega) 0 100 (by omega)) fun r18 h18=>hJ _ _ _ _ _ _ (h18.2.mono (by omega)) hhost x2) (fun _ => ?_)
 refine wb (fun _=>yb (z6v h15.2 (by omega) 0 100 (by omega)) fun r18 h18=>hJ _ _ _ _ _ _ (h18.2.mono (by omega)) hhost x2) (fun _ => ?_)
 refine wb (fun _=>yb (ul h15.2 (by omega) 3 (by omega)) fun r24 h24 => ?_) (fun _=>yb (x38 h15.2 (by omega)) fun r28 h28=>hJ _ _ _ _ _ _ (h28.2.mono (by omega)) h28.1 x2)
 obtain ⟨⟨m1,m2,_⟩,m4⟩:=h24
 have hx:∃ x,at? ([[[114,101,100],[98,108,117,101]],[[]],[[65]]]:List (List Bs)) r24.1=some x∧(x.length≤100∧∀ t,t∈x→t.length≤1000):=by
  have:=m2 (by omega)
  rcases (show r24.1=0∨r24.1=1∨r24.1=2 by omega) with e | e | e <;> rw [e] <;> exact ⟨_,rfl,by decide,by decide⟩
 obtain ⟨x26,y1,y2⟩:=hx
 rw [y1]
 simp only [Option.bind_some]
 exact hJ _ _ _ _ _ _ (m4.mono (by omega)) hhost y2
def spT (c:UInt8):Bool:=c == 32 || c == 44
theorem y9f:(fun c:UInt8=>(Zr (c.toNat:Int)).getD false)=spT:=by
 funext c
 have:=kf (fun c=>decide ((Zr (c.toNat:Int)).getD false=spT c)) (by decide +kernel) c
 exact of_decide_eq_true this
theorem z8e (p:UInt8→Bool) (B:Nat):∀ (l cur:Bs),cur.length+l.length≤B→∀ x,x∈ffGo p cur l→x.length≤B
 | [],cur,h,x,hx=>by
  unfold ffGo at hx
  split at hx
  ·cases hx
  ·obtain rfl:x=cur:=by simpa using hx
   simp at h; omega
 | c::l,cur,h,x,hx=>by
  simp only [List.length_cons] at h
  unfold ffGo at hx
  split at hx
  ·split at hx
   ·exact z8e p B l [] (by simp; omega) x hx
   ·rcases List.mem_cons.1 hx with rfl | hx
    ·omega
    ·exact z8e p B l [] (by simp; omega) x hx
  ·exact z8e p B l (cur++[c]) (by simp; omega) x hx
theorem y53 (p:UInt8→Bool) (l:Bs):(ffGo p [] l).length≤l.length:=by
 have:=y02 p l []
 simpa using this
theorem z8d (p:UInt8→Bool) (hp:p 32=true) (b:Bs):∀ (a cur:Bs),ffGo p cur (a++32::b)=ffGo p cur a++ffGo p [] b
 | [],cur=>by
  rw [List.nil_append]
  conv=>lhs; unfold ffGo
  rw [if_pos hp]
  conv=>rhs; arg 1; unfold ffGo
  split <;> simp
 | c::a,cur=>by
  rw [List.cons_append]
  conv=>lhs; unfold ffGo
  conv=>rhs; arg 1; unfold ffGo
  split
  ·split
   ·exact z8d p hp b a []
   ·rw [z8d p hp b a []]; rfl
  ·exact z8d p hp b a (cur++[c])
theorem y5c (x y:Bs) (l:List Bs):Lib.join (x::y::l) [32]=x++32::Lib.join (y::l) [32]:=by
 rw [show Lib.join (x::y::l) [32]=x++([32]++Lib.join (y::l) [32]) from rfl]; rfl
theorem y54 (p:UInt8→Bool) (hp:p 32=true):∀ V:List Bs,ffGo p [] (Lib.join V [32])=(V.map (ffGo p [])).flatten
 | []=>rfl
 | [x]=>by simp [Lib.join]
 | x::y::l=>by
  rw [y5c,z8d p hp,y54 p hp (y::l)]; rfl
theorem y5b:∀ (V:List Bs) (c:UInt8),c∈Lib.join V [32]→c=32∨∃ v,v∈V∧c∈v
 | [],c,h=>by cases h
 | [x],c,h => .inr ⟨x,by simp,by simpa [Lib.join] using h⟩
 | x::y::l,c,h=>by
  rw [y5c] at h
  rcases List.mem_append.1 h with h | h
  ·exact .inr ⟨x,by simp,h⟩
  ·rcases List.mem_cons.1 h with h | h
   ·exact .inl h
   ·rcases y5b (y::l) c h with h | ⟨v,h1,h2⟩
    ·exact .inl h
    ·exact .inr ⟨v,List.mem_cons_of_mem _ h1,h2⟩
def r44 (c:UInt8):UInt8:=if c=44 then 32 else c
theorem z9l:∀ s:Bs,(44:UInt8) ∉ s→s.map r44=s
 | [],_=>rfl
 | x::s,h=>by
  have h1:x≠44:=fun e=>h (by simp [e])
  have h2:=z9l s (fun e=>h (by simp [e]))
  rw [List.map_cons,h2,show r44 x=x from if_neg h1]
theorem x0a:∀ (n:Nat) (s:Bs),s.length≤n→Lib.replaceK [44] [32] (Lib.count s [44]) s=s.map r44:=by
 intro n
 induction n with
 | zero=>intro s h; obtain rfl:s=[]:=List.length_eq_zero_iff.1 (by omega); rw [Lib.count_miss (by rfl)]; rfl
 | succ n ih =>
  intro s h
  rcases y51 44 s with h1 | ⟨p,q,rfl,h1⟩
  ·rw [Lib.count_miss (y5j 44 s h1),z9l s h1]; rfl
  ·have hi:=y5k 44 q p h1
   have hd:(p++44::q).drop (p.length+1)=q:=by rw [← List.drop_drop]; simp
   rw [Lib.count_hit (by simp) hi,Nat.add_comm 1,Lib.replaceK_hit _ _ _ _ _ hi]
   simp only [List.length_cons,List.length_nil,Nat.zero_add]
   rw [hd,ih q (by simp at h; omega),List.map_append,List.map_cons,z9l p h1]
   simp [r44]
theorem x0b (s:Bs):Lib.replaceAll s [44] [32]=s.map r44:=by
 unfold Lib.replaceAll Lib.replace Lib.replaceNum
 rw [if_neg (by decide),if_pos (.inl (by decide))]
 exact x0a s.length s (Nat.le_refl _)
theorem y00:∀ (l cur:Bs),Lib.fieldsGo cur l=ffGo Lib.isSp cur l
 | [],cur=>rfl
 | c::l,cur=>by
  unfold Lib.fieldsGo ffGo
  rw [y00 l [],y00 l (cur++[c])]
theorem x3y (c:UInt8) (h:outP (c.toNat:Int) 32 126=false):Lib.isSp (r44 c)=spT c∧(spT c=false→r44 c=c):=by
 have:=kf (fun c=>outP (c.toNat:Int) 32 126 || (decide (Lib.isSp (r44 c)=spT c) && (spT c || decide (r44 c=c)))) (by decide +kernel) c
 rw [h] at this
 simp only [Bool.false_or,Bool.and_eq_true,decide_eq_true_eq,Bool.or_eq_true] at this
 refine ⟨this.1,fun e => ?_⟩
 rcases this.2 with h | h
 ·rw [e] at h; cases h
 ·exact h
theorem y01:∀ (l cur:Bs),rgB l 32 126=true→ffGo Lib.isSp cur (l.map r44)=ffGo spT cur l
 | [],cur,h=>rfl
 | c::l,cur,h=>by
  unfold rgB at h
  rw [List.all_cons,Bool.and_eq_true] at h
  have hc:outP (c.toNat:Int) 32 126=false:=by simpa using h.1
  obtain ⟨h1,h2⟩:=x3y c hc
  have i1:=y01 l [] h.2
  have i2:=y01 l (cur++[c]) h.2
  rw [List.map_cons]
  unfold ffGo
  rw [h1,i1]
  cases hs:spT c
  ·rw [h2 hs,i2]
  ·rfl
def tgN:Bs:=[99,97,99,104,101,45,116,97,103]
def tgL (V:List Bs):List Bs:=(V.map (ffGo spT [])).flatten
def tgR (T:List Bs):List Bs×Int:=if T.all keyP then (if 20 < ((setB T).length:Int) then ([],2) else (setB T,0)) else ([],5)
theorem y2f:∀ V:List Bs,(∀ v,v∈V→v.length≤2000)→(tgL V).length≤2000 * V.length
 | [],_=>by simp [tgL]
 | v::V,h=>by
  have h1:=y2f V fun x hx=>h x (List.mem_cons_of_mem _ hx)
  have h2:=y53 spT v
  have h3:=h v (by simp)
  unfold tgL at h1 ⊢
  rw [List.map_cons,List.flatten_cons,List.length_append,List.length_cons]
  omega
theorem y75 {V:List Bs} (h:∀ v,v∈V→v.length≤2000):∀ x,x∈tgL V→x.length≤2000:=fun x hx=>by
 unfold tgL at hx
 obtain ⟨l,h1,h2⟩:=List.mem_flatten.1 hx
 obtain ⟨v,h3,rfl⟩:=List.mem_map.1 h1
 exact z8e spT 2000 v [] (by have:=h v h3; simpa using this) x h2
theorem x4t {v:Bs} (h:ascB v=true) (hl:v.length≤1000000000):z00 v (fun (a0:Int)=>Zr a0)=some (ffGo spT [] v):=by
 unfold z00
 rw [if_pos ⟨h,hl,fun c=>rfl⟩]
 rw [show (fun c:UInt8=>((fun (a0:Int)=>Zr a0) (c.toNat:Int)).getD false)=spT from y9f]
theorem tagP:∀ (V:List Bs) (k:Nat) (q:List Bs),(∀ v,v∈V→v.length≤2000∧ascB v=true)→q.length+2000 * V.length≤100000000→forL (fun (k:Nat) (x:Bs) (s:(List Bs))=>z0d k x s) (fun (s:(List Bs))=>z2s s) k V q=z2s (q++tgL V)
 | [],k,q,_,_=>by simp [forL,tgL]
 | v::V,k,q,h,hl=>by
  have h1:=h v (by simp)
  have h2:=y53 spT v
  simp only [List.length_cons] at hl
  have e:z0d k v q=some (.inl (q++ffGo spT [] v)):=by
   unfold z0d
   rw [x4t h1.2 (by omega)]
   simp only [Option.bind_some]
   rw [if_pos (by omega)]
  show (z0d k v q).bind _=_
  rw [e]
  have:=tagP V (k+1) (q++ffGo spT [] v) (fun x hx=>h x (List.mem_cons_of_mem _ hx)) (by rw [List.length_append]; omega)
  rw [show q++tgL (v::V)=(q++ffGo spT [] v)++tgL V from by simp [tgL]]
  exact this
theorem y4j (x:Bs) (h:x.length≤2000):Yx x=some (keyP x)∧Qe x=some (keyP x):=⟨y5f x (by omega),y4i x (by omega)⟩
theorem tagA (E:Unit→Option (List Bs×Int)):∀ (l pre:List Bs),(∀ x,x∈l→x.length≤2000)→rng (fun (k:Nat) (s:Unit)=>z0c (pre++l) k) E l.length pre.length ()=if l.all keyP then E () else some ([],5)
 | [],pre,_=>rfl
 | x::l,pre,h=>by
  have e1:(pre++x::l)[pre.length]?=some x:=by simp
  have hx:=h x (by simp)
  have e:z0c (pre++x::l) pre.length=if keyP x then some (.inl ()) else some (.inr ([],5)):=by
   unfold z0c
   rw [e1]
   simp only [Option.bind_some]
   rw [(y4j x hx).1]
   cases keyP x <;> rfl
  have ih:=tagA E l (pre++[x]) fun y hy=>h y (List.mem_cons_of_mem _ hy)
  rw [show (pre++[x])++l=pre++x::l by simp,show (pre++[x]).length=pre.length+1 by simp] at ih
  show (z0c (pre++x::l) pre.length).bind _=_
  rw [e,List.all_cons]
  cases keyP x
  ·rfl
  ·exact ih
theorem tagB:∀ (l:List Bs) (k:Nat) (q:List Bs),(∀ x,x∈l→x.length≤2000)→q.length+l.length≤100000000→forL (fun (k:Nat) (x:Bs) (s:(List Bs))=>Qw k x s) (fun (s:(List Bs))=>Qx s) k l q=if l.all keyP then Qx (q++l) else some ([],5)
 | [],k,q,_,_=>by simp [forL]
 | x::l,k,q,h,hl=>by
  simp only [List.length_cons] at hl
  have hx:=h x (by simp)
  have e:Qw k x q=if keyP x then some (.inl (q++[x])) else some (.inr ([],5)):=by
   unfold Qw
   rw [(y4j x hx).2]
   simp only [Option.bind_some]
   rw [if_pos (by omega:q.length+1≤1000000000)]
   cases keyP x <;> rfl
  have ih:=tagB l (k+1) (q++[x]) (fun y hy=>h y (List.mem_cons_of_mem _ hy)) (by simp; omega)
  show (Qw k x q).bind _=_
  rw [e,List.all_cons]
  cases keyP x
  ·rfl
  ·rw [show q++x::l=(q++[x])++l by simp]; exact ih
theorem y77 (a:zx) (h0:hdsE a.Headers=0) (h2:∀ x,x∈a.Headers→nmOK x):z4d a=some (tgR (tgL (wc tgN a.Headers)))∧z1c a=some (tgR (tgL (wc tgN a.Headers))):=by
 have hl:=Qr h0
 have hv:=z2z a.Headers tgN (by omega) h2 ⟨rfl,by decide⟩
 have hf:∀ v,v∈wc tgN a.Headers→fldB v=true:=fun v hv=>by
  unfold wc at hv
  obtain ⟨x,hx,rfl⟩:=List.mem_map.1 hv
  exact (z5a h0 x (List.mem_filter.1 hx).1).2
 have hV:(wc tgN a.Headers).length≤50:=by
  unfold wc
  rw [List.length_map]
  have:=List.length_filter_le (nmB tgN) a.Headers
  omega
 unfold z4d z1c
 rw [show kj a.Headers [99,97,99,104,101,45,116,97,103]=some (wc tgN a.Headers) from hv.1,show uo a.Headers [99,97,99,104,101,45,116,97,103]=some (wc tgN a.Headers) from hv.2]
 simp only [Option.bind_some]
 generalize wc tgN a.Headers=V at *
 have hvl:∀ v,v∈V→v.length≤2000:=fun v h=>z8c (hf v h)
 have hva:∀ v,v∈V→ascB v=true:=fun v h=>z9j (y5z (hf v h))
 have hTl:=y2f V hvl
 have hTm:=y75 hvl
 have hJl:=z4q 2000 [32] V hvl
 have hJl:(Lib.join V [32]).length≤110000:=by
  have h50:V.length * (2000+([32]:Bs).length)≤50 * 2001:=Nat.mul_le_mul hV (by decide)
  omega
 have hJr:rgB (Lib.join V [32]) 32 126=true:=by
  unfold rgB
  refine List.all_eq_true.2 fun c hc => ?_
  rcases y5b V c hc with rfl | ⟨v,h1,h2⟩
  ·decide
  ·have:=y5z (hf v h1)
   unfold rgB at this
   exact List.all_eq_true.1 this c h2
 have hmapa:ascB ((Lib.join V [32]).map r44)=true:=by
  have:=z9j hJr
  unfold ascB at this ⊢
  rw [List.all_map]
  refine List.all_eq_true.2 fun c hc => ?_
  have h1:=List.all_eq_true.1 this c hc
  simp only [Function.comp_apply,r44]
  split
  ·decide
  ·exact h1
 have hF:Lib.fields ((Lib.join V [32]).map r44)=tgL V:=by
  unfold Lib.fields tgL
  rw [y00,y01 _ _ hJr,y54 spT (by decide)]
 have hE:(xk (tgL V)).bind (fun (r12:((List Bs)))=>if decide (20 < (r12.length:Int)) then (some (([]:List Bs),(2:Int))) else (some (r12,0)))=some (if 20 < ((setB (tgL V)).length:Int) then ([],2) else (setB (tgL V),0)):=by
  unfold xk wu
  rw [if_pos (by omega)]
  simp only [Option.bind_some]
  rw [z6j (tgL V) (by omega)]
  simp only [Option.bind_some]
  by_cases h:20 < ((setB (tgL V)).length:Int) <;> simp [h]
 have hE':Qx (tgL V)=some (if 20 < ((setB (tgL V)).length:Int) then ([],2) else (setB (tgL V),0)):=by
  unfold Qx
  rw [z6j (tgL V) (by omega)]
  by_cases h:20 < ((setB (tgL V)).length:Int) <;> simp [h]
 constructor
 ·rw [if_pos (by omega),tagP V 0 [] (fun v h=>⟨hvl v h,hva v h⟩) (by simp; omega),List.nil_append]
  unfold z2s
  rw [if_pos (by omega)]
  have:=tagA (fun (s:Unit)=>z5i (tgL V)) (tgL V) [] hTm
  rw [List.nil_append] at this
  refine this.trans ?_
  unfold tgR z5i
  rw [hE]
  cases (tgL V).all keyP <;> rfl
 ·unfold jx z68 z01
  rw [if_pos ⟨by omega,by omega⟩]
  simp only [Option.bind_some]
  rw [if_pos ⟨by omega,by decide,by decide⟩]
  simp only [Option.bind_some]
  rw [x0b,if_pos ⟨hmapa,by rw [List.length_map]; omega⟩]
  simp only [Option.bind_some]
  rw [hF,if_pos (by omega),tagB (tgL V) 0 [] hTm (by simp; omega),List.nil_append,hE']
  unfold tgR
  cases (tgL V).all keyP <;> rfl
theorem y74 (T:List Bs):(tgR T).1.length≤20:=by
 unfold tgR
 split
 ·split
  ·simp
  ·simp only; omega
 ·simp
theorem x4c {l:List zd} (hl:l.length≤50) (h:∀ x,x∈l→tokB x.Name=true∧fldB x.Value=true):hdsE l=0:=by
 have key:∀ (l:List zd) (k:Nat),(∀ x,x∈l→hdE x=0)→feI (fun _ h=>hdE h) k l=0:=by
  intro l
  induction l with
  | nil=>intro _ _; rfl
  | cons y l ih =>
   intro k h
   unfold feI
   rw [if_neg (by simp [h y (by simp)])]
   exact ih (k+1) fun x hx=>h x (List.mem_cons_of_mem _ hx)
 unfold hdsE
 rw [if_neg (by omega)]
 refine key l 0 fun x hx => ?_
 unfold hdE
 rw [(h x hx).1,(h x hx).2]; rfl
theorem haR {l:List zd} (h0:hdsE l=0):haP 100 l:=⟨by have:=Qr h0; omega,fun y hy=>by
 have h:=z5a h0 y hy
 have h1:=z6a h.1
 have h2:=z8c h.2
 exact ⟨⟨by omega,by omega⟩,z6b h.1,by omega⟩⟩
theorem nmf (l:List zd) (n:Bs) (h0:hdsE l=0) (hn:tokB n=true):z06 l n=some 0:=by
 have hl:=z6a hn
 unfold z06
 rw [(z13 l (z7z (haR h0) (by omega))).1,h0]
 simp only [Option.bind_some]
 rw [if_neg (by decide),z1w n (by omega),hn]; rfl
def inN:Bs:=[105,102,45,110,111,110,101,45,109,97,116,99,104]
def egN:Bs:=[101,116,97,103]
def zQ:ya:=ya.mk 0 [] [] [] [] [] [] []
def zE:zy:=zy.mk zQ (zx.mk 0 [] []) 0 [] 0
theorem x0e (e:zy) (r:ya) (h1:hdsE e.Response.Headers=0) (h2:hdsE r.Headers=0) (hp:z1m e r=some 0):∃ q,Qj e r=some q∧z30 e r=some q∧q.1.Headers.length≤1000:=by
 have l2:=Qr h2
 have l1:=Qr h1
 have n2:=z5c (haR h2)
 have n1:=z5c (haR h1)
 have hv:=z2z e.Response.Headers egN (by omega) n1 ⟨rfl,by decide⟩
 have hw:z05 r.Headers inN=some (r.Headers.filter fun x => !nmB inN x):=y65 r.Headers inN (by omega) n2 rfl
 have hw':un r.Headers inN=some (r.Headers.filter fun x => !nmB inN x):=y3q r.Headers inN (by omega) n2 ⟨rfl,by decide⟩
 have hfl:=List.length_filter_le (fun x => !nmB inN x) r.Headers
 have hR:z08 r.Headers inN=some (r.Headers.filter fun x => !nmB inN x,0):=by
  unfold z08
  rw [nmf r.Headers inN h2 (by decide +kernel),hw]; rfl
 have hJ:∀ l:List zd,l.length≤1000→∃ q,z0g r l=some q∧Wa r l=some q∧q.1.Headers.length≤1000:=by
  intro l hl
  unfold z0g Wa
  by_cases h:50 < (l.length:Int)
  ·exact ⟨(zQ,2),by simp [h,zQ],by simp [h,zQ],by simp [zQ]⟩
  ·exact ⟨(ya.mk r.At r.Method r.Host r.Path r.Query r.From l r.Body,0),by simp [h],by simp [h],hl⟩
 unfold Qj z30
 rw [hp]
 simp only [Option.bind_some]
 rw [if_neg (by decide)]
 show ∃ q,(z08 r.Headers inN).bind _=some q∧(un r.Headers inN).bind _=some q∧_
 rw [hR,hw']
 simp only [Option.bind_some]
 rw [if_neg (by simp)]
 show ∃ q,(kj e.Response.Headers egN).bind _=some q∧(uo e.Response.Headers egN).bind _=some q∧_
 rw [hv.1,hv.2]
 simp only [Option.bind_some]
 cases wc egN e.Response.Headers with
 | nil =>
  rw [if_neg (by simp),if_neg (by simp)]
  exact hJ _ (by omega)
 | cons v V =>
  rw [if_pos (by simp),if_pos (by simp)]
  simp only [List.getElem?_cons_zero,Option.bind_some]
  have hg:(r.Headers.filter fun x => !nmB inN x).length+1≤1000000000:=by omega
  rw [if_pos hg,if_pos hg]
  exact hJ _ (by simp only [List.length_append,List.length_cons,List.length_nil]; omega)
def rsE (r:zy×Int):Prop:=r.1.Request.Headers.length≤1000000∧r.1.Response.Headers.length≤1000000∧r.1.Tags.length≤1000000
theorem rsZ (n:Int):rsE (zE,n):=⟨by simp [zE,zQ],by simp [zE],by simp [zE]⟩
theorem y6e (e:zy) (he:enP e) (at_ st:Int) (c:List zd) (body:Bs) (tags:List Bs) (hc:haP 100 c) (ht:tags.length≤100∧∀ t,t∈tags→t.length≤1000) :
  ∃ r,z0f at_ e st c body tags=some r∧Zy e at_ st c body tags=some r∧rsE r:=by
 obtain ⟨f,f1,f2,_⟩:=y59 (zy.mk e.Request (zx.mk st c body) at_ tags at_) ⟨he.1,hc,ht.1,ht.2⟩
 have h1:=he.1.1.1.2.2.2.2.2.1
 unfold z0f Zy
 rw [f1,f2]
 simp only [Option.bind_some]
 by_cases h:f=0
 ·refine ⟨(zy.mk e.Request (zx.mk st c body) at_ tags at_,0),by simp [h],by simp [h],by show e.Request.Headers.length≤1000000; omega,?_,?_⟩
  ·have:=hc.1; simp only; omega
  ·have:=ht.1; simp only; omega
 ·exact ⟨(zE,f),by simp [h,zE,zQ],by simp [h,zE,zQ],rsZ f⟩
theorem x5i (e:zy) (he:enP e):z4i e=some e:=by
 have h1:=he.1.1.1.2.2.2.2.2.1
 have h2:=he.2.1.1
 have h3:=he.2.2.1
 unfold z4i z7i Qi wu
 rw [if_pos (by omega),if_pos (by omega),if_pos (by omega)]
 rfl
theorem y9c {n v:Bs} (hn:tokB n=true) (hv:fldB v=true) {l:List zd} (h:∀ x,x∈l→tokB x.Name=true∧fldB x.Value=true):∀ y,y∈stB n v l→tokB y.Name=true∧fldB y.Value=true:=fun y hy=>by
 unfold stB at hy
 split at hy
 ·rcases (y3e n v l).2 y hy with h1 | ⟨x,h1,rfl⟩
  ·exact h y h1
  ·exact ⟨(h x h1).1,hv⟩
 ·rcases List.mem_append.1 hy with h1 | h1
  ·exact h y h1
  ·obtain rfl:y=zd.mk n v:=by simpa using h1
   exact ⟨hn,hv⟩
def clN:Bs:=[99,111,110,116,101,110,116,45,108,101,110,103,116,104]
theorem x49 (k:Nat) (x:zd) (c:List zd) (hx:tokB x.Name=true∧fldB x.Value=true) (hc:hdsE c=0) :
  ∃ q,z2u k x c=some q∧Wc k x c=some q∧rd (fun c=>hdsE c=0) rsE q:=by
 have hl:=Qr hc
 have hn:=z5c (haR hc)
 have ha:=z6b hx.1
 have hxl:=z6a hx.1
 have hvl:=z8c hx.2
 have e1:Ys x.Name [99,111,110,116,101,110,116,45,108,101,110,103,116,104]=some (decide (lo x.Name=lo clN)):=by
  unfold Ys
  rw [if_pos ⟨by omega,ha,by decide⟩,y03]; rfl
 have e2:xl x.Name [99,111,110,116,101,110,116,45,108,101,110,103,116,104]=some (decide (lo x.Name=lo clN)):=z8o x.Name clN ⟨ha,by omega⟩ ⟨by decide,by decide⟩
 unfold z2u Wc z2v z2g
 rw [e1,e2]
 simp only [Option.bind_some]
 by_cases h:lo x.Name=lo clN
 ·exact ⟨.inl c,by simp [h],by simp [h],hc⟩
 ·have hS:z3s c x.Name x.Value=some (if 50 < ((stB x.Name x.Value c).length:Int) then ([],2) else (stB x.Name x.Value c,0)):=by
   unfold z3s
   rw [nmf c x.Name hc hx.1]
   simp only [Option.bind_some]
   rw [if_neg (by decide),z4t _ (by omega),hx.2]
   simp only [Option.bind_some,Bool.not_true,Bool.false_eq_true,if_false]
   rw [y9i c x.Name x.Value (by omega) hn ha]
   simp only [Option.bind_some]
   by_cases h5:50 < ((stB x.Name x.Value c).length:Int) <;> simp [h5]
  have hR:z1d c x.Name x.Value=some (stB x.Name x.Value c):=y9j c x.Name x.Value (by omega) hn ⟨ha,by omega⟩
  rw [hS,hR]
  simp only [h,decide_false,Bool.false_eq_true,if_false,Option.bind_some]
  by_cases h5:50 < ((stB x.Name x.Value c).length:Int)
  ·exact ⟨.inr (zE,2),by simp [h5,zE,zQ],by simp [h5,zE,zQ],rsZ 2⟩
  ·refine ⟨.inl (stB x.Name x.Value c),by simp [h5],by simp [h5],?_⟩
   exact x4c (by omega) (y9c hx.1 hx.2 (z5a hc))
theorem y73 (T:List Bs):∀ t,t∈(tgR T).1→t.length≤1000:=fun t ht=>by
 unfold tgR at ht
 split at ht
 ·rename_i h
  split at ht
  ·cases ht
  ·have h1:=(y9l T t).1 ht
   have h2:=List.all_eq_true.1 h t h1
   unfold keyP at h2
   simp only [Bool.and_eq_true,decide_eq_true_eq] at h2
   omega
 ·cases ht
theorem y6d (e:zy) (a:zx) (at_:Int) (he:enP e) (h0:Zs e=some 0) (h1:hdsE e.Response.Headers=0) (ha:haP 100 a.Headers):∃ r,ur e a at_=some r∧z33 e a at_=some r∧rsE r:=by
 obtain ⟨f,f1,f2,f3⟩:=y3o a (z7z ha (by omega))
 have hal:=ha.1
 have hel:=he.2.1.1
 unfold ur z33 z7g
 rw [h0,f1,f2,z4s,z6y]
 simp only [Option.bind_some]
 rw [if_neg (by decide)]
 by_cases hf:f=0
 ·have h2:=f3 hf
  simp only [hf,ne_eq,not_true_eq_false,decide_false,Bool.false_eq_true,if_false]
  cases momP at_
  ·exact ⟨(zE,1),by simp [zE,zQ],by simp [zE,zQ],rsZ 1⟩
  ·simp only [Bool.not_true,Bool.false_eq_true,if_false]
   by_cases hlt:at_ < e.At
   ·exact ⟨(zE,7),by simp [hlt,zE,zQ],by simp [hlt,zE,zQ],rsZ 7⟩
   ·simp only [hlt,decide_false,Bool.false_eq_true,if_false,Option.bind_some,not_true_eq_false]
    have hend:∃ r,z4h e a at_=some r∧(if decide (a.Status=304) then ((wu e.Response.Headers).bind fun (r12:((List zd)))=>if a.Headers.length≤1000000000 then forL (fun (k:Nat) (x:zd) (s:(List zd))=>Wc k x s) (fun (s:(List zd))=>z79 e at_ s) 0 a.Headers r12 else none) else ((z1c a).bind fun (r28:((List Bs)×Int))=>if decide (r28.2≠0) then (some (zE,r28.2)) else (Zy e at_ a.Status a.Headers a.Body r28.1)))=some r∧rsE r:=by
     unfold z4h
     rw [x5i e he]
     simp only [Option.bind_some]
     by_cases hs:a.Status=304
     ·have hcl:wu e.Response.Headers=some e.Response.Headers:=by
       unfold wu
       rw [if_pos (by omega)]
      have hal':a.Headers.length≤1000000000:=by omega
      simp only [hs,ne_eq,not_true_eq_false,decide_false,Bool.false_eq_true,if_false,decide_true,if_true,hcl,Option.bind_some,hal']
      refine y5u (body:=fun (k:Nat) (x:zd) (s:(List zd))=>z2u k x s) (body':=fun (k:Nat) (x:zd) (s:(List zd))=>Wc k x s) (R:=rsE) (fun _ c=>hdsE c=0) a.Headers 0 e.Response.Headers h1 (fun j x c _ hx hc => ?_) (fun c hc => ?_)
      ·exact x49 j x c (z5a h2 x (List.mem_of_getElem? hx)) hc
      ·exact y6e e he at_ e.Response.Status c e.Response.Body e.Tags (haR hc) he.2.2
     ·have ht:=y77 a h2 (z5c ha)
      simp only [hs,ne_eq,not_false_eq_true,decide_true,if_true,decide_false,Bool.false_eq_true,if_false,ht.1,ht.2,Option.bind_some]
      have hl:=y74 (tgL (wc tgN a.Headers))
      have hm:=y73 (tgL (wc tgN a.Headers))
      generalize tgR (tgL (wc tgN a.Headers))=T at *
      by_cases hT:T.2=0
      ·have hcl:Qi a=some a:=by
        unfold Qi wu
        rw [if_pos (by omega)]; rfl
       simp only [hT,not_true_eq_false,decide_false,Bool.false_eq_true,if_false,hcl,Option.bind_some]
       exact y6e e he at_ a.Status a.Headers a.Body T.1 ha ⟨by omega,hm⟩
      ·exact ⟨(zE,T.2),by simp [hT,zE,zQ],by simp [hT],rsZ _⟩
    obtain ⟨r,r1,r2,r3⟩:=hend
    refine ⟨r,?_,r2,r3⟩
    rw [r1]; rfl
 ·exact ⟨(zE,f),by simp [hf,zE,zQ],by simp [hf,zE,zQ],rsZ f⟩
theorem x40 (r:zy×Int) (h:rsE r):z3z r.1 r.1=some true:=by
 unfold z3z xp z7d Qy
 rw [y3i r.1.Request (by have:=h.1; omega)]
 simp only [Option.bind_some,if_true,decide_true]
 rw [y58 _ (by have:=h.2.1; omega)]
 simp only [Option.bind_some,if_true]
 rw [eqY _ _ (by have:=h.2.2; omega)]
 simp
theorem y6c (r2:zy×zn) (r4:ya×zn) (r6:zx×zn) (at_ st:Int) (he:enP r2.1) (hr:rqP r4.1) (ha:haP 100 r6.1.Headers):Wy r2 r4 r6 at_ st=some true:=by
 obtain ⟨f,f1,f2,f3⟩:=y59 r2.1 he
 obtain ⟨g,g1,g2,g3⟩:=y3p r4.1 hr
 have hk:z1j=some true:=x1l
 have hp:z1m r2.1 r4.1=some (if f≠0 then f else g):=by
  unfold z1m
  rw [f1,g1]
  by_cases h:f=0 <;> simp [h]
 have hJ4:∀ (q:ya×Int) (c:zy×Int),q.1.Headers.length≤1000→rsE c→Ww q c q.2 q.1.At q.1.Method q.1.Host q.1.Path q.1.Query q.1.From q.1.Headers q.1.Body c.2 c.1.Request.At c.1.Request.Method c.1.Request.Host c.1.Request.Path c.1.Request.Query c.1.Request.From c.1.Request.Headers c.1.Request.Body c.1.Response.Status c.1.Response.Headers c.1.Response.Body c.1.At c.1.Tags c.1.Used=some true:=by
  intro q c hq hc
  unfold Ww xu
  rw [if_pos (by simp),show ya.mk q.1.At q.1.Method q.1.Host q.1.Path q.1.Query q.1.From q.1.Headers q.1.Body=q.1 from rfl,y3i q.1 (by omega)]
  simp only [Option.bind_some,if_true,decide_true]
  rw [show zy.mk (ya.mk c.1.Request.At c.1.Request.Method c.1.Request.Host c.1.Request.Path c.1.Request.Query c.1.Request.From c.1.Request.Headers c.1.Request.Body) (zx.mk c.1.Response.Status c.1.Response.Headers c.1.Response.Body) c.1.At c.1.Tags c.1.Used=c.1 from rfl,x40 c hc,hk]
  rfl
 have hJ3:∀ (q:ya×Int) (c:zy×Int),ur r2.1 (zx.mk st r6.1.Headers r6.1.Body) at_=some c→q.1.Headers.length≤1000→Wx r2 r6 at_ st q c f q.2 q.1.At q.1.Method q.1.Host q.1.Path q.1.Query q.1.From q.1.Headers q.1.Body=some true:=by
  intro q c hc hq
  unfold Wx
  by_cases h:f=0
  ·subst h
   obtain ⟨x,x1,x2,x3⟩:=y6d r2.1 (zx.mk st r6.1.Headers r6.1.Body) at_ he f1 (f3 rfl).2.1 ha
   obtain rfl:c=x:=Option.some.inj (hc.symm.trans x1)
   rw [if_pos (by simp),x2]
   exact hJ4 q c hq x3
  ·rw [if_neg (by simpa using h)]
   have:c=(zE,f):=by
    have e:ur r2.1 (zx.mk st r6.1.Headers r6.1.Body) at_=some (zE,f):=by
     unfold ur
     rw [f1]
     simp [h,zE,zQ]
    exact Option.some.inj (hc.symm.trans e)
   rw [this]
   exact hJ4 q (zE,f) hq (rsZ f)
 have hC:∃ c,ur r2.1 (zx.mk st r6.1.Headers r6.1.Body) at_=some c:=by
  by_cases h:f=0
  ·subst h
   obtain ⟨x,x1,_⟩:=y6d r2.1 (zx.mk st r6.1.Headers r6.1.Body) at_ he f1 (f3 rfl).2.1 ha
   exact ⟨x,x1⟩
  ·refine ⟨(zE,f),?_⟩
   unfold ur
   rw [f1]
   simp [h,zE,zQ]
 obtain ⟨c,hc⟩:=hC
 unfold Wy
 rw [hc,f2,g2]
 simp only [Option.bind_some]
 rw [x4x]
 simp only [Option.bind_some]
 by_cases hz:(if f≠0 then f else g)=0
 ·have hf:f=0:=by
   by_cases h:f=0
   ·exact h
   ·rw [if_pos h] at hz; exact absurd hz h
  have hg:g=0:=by rw [hf] at hz; simpa using hz
  rw [hz] at hp
  obtain ⟨q,q1,q2,q3⟩:=x0e r2.1 r4.1 (f3 hf).2.1 (g3 hg).1 hp
  rw [q1,q2]
  simp only [Option.bind_some]
  rw [if_pos (by simpa using hz)]
  exact hJ3 q c hc q3
 ·have hq:Qj r2.1 r4.1=some (zQ,if f≠0 then f else g):=by
   unfold Qj
   rw [hp]
   simp only [Option.bind_some]
   rw [if_pos (by simpa using hz)]; rfl
  rw [hq]
  simp only [Option.bind_some]
  rw [if_neg (by simpa using hz)]
  exact hJ3 (zQ,if f≠0 then f else g) c hc (by simp [zQ])
theorem x42 (L:List Int):z7f L=some true:=by
 refine y35 ?_
 unfold z7f
 refine yb (x41 (k:=0) ⟨by simp,by simp⟩ (by omega)) fun r2 h2=>yb (y6n h2.2 (by omega) 0) fun r4 h4=>yb (y6m h4.2 (by omega)) fun r6 h6 => ?_
 have hJ:∀ (v:Int) (c:List Int) (a:Int),SB 10000 (zn.mk c a)→Ok (Wz r2 r4 r6 v c a) (· = true):=by
  intro v c a hs
  unfold Wz
  refine yb (vd hs (by omega) 2 (by omega)) fun r _=>wb (fun _ => ?_) (fun _ => ?_)
  ·rw [y6c r2 r4 r6 v 304 h2.1 h4.1.1.1 h6.1]; exact yq rfl
  ·rw [y6c r2 r4 r6 v r6.1.Status h2.1 h4.1.1.1 h6.1]; exact yq rfl
 have hL:Ok (z35 r6.2 r2.1.At) fun r=>SB 5000 r.2:=by
  unfold z35
  exact yb (z6s h6.2 (by omega) _ ⟨by simp,by simp⟩) fun r hr=>yq (hr.2.mono (by omega))
 refine yb hL fun r8 h8=>yb (vd h8 (by omega) 15 (by omega)) fun r10 h10=>wb (fun _ => ?_) (fun _=>hJ _ _ _ (h10.mono (by omega)))
 exact yb (z6v h10 (by omega) 0 1000 (by omega)) fun r13 h13=>hJ _ _ _ (h13.2.mono (by omega))
end Go.Proofs.YtkldmhhbbceaoabGreatDoor
