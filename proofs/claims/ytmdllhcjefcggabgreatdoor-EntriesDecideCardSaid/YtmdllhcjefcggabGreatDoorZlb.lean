/- Plain: the law EntriesDecide is true for every list of numbers. -/
import Derived.Test.YtmdllhcjefcggabGreatDoorCqZl
namespace Go.Proofs.YtmdllhcjefcggabGreatDoor
set_option linter.unusedVariables false
set_option maxRecDepth 20000
theorem y7c {α:Type} {body:Nat→α→Unit→Option (Unit ⊕ Int)} {fin:Unit→Option Int} {e:Nat→α→Int}:∀ (l:List α) (k:Nat),(∀ j x,k≤j→l[j - k]?=some x→body j x ()=if e j x≠0 then some (.inr (e j x)) else some (.inl ()))→forL body fin k l ()=if feI e k l≠0 then some (feI e k l) else fin ()
 | [],k,h=>by simp [forL,feI]
 | x::l,k,h=>by
  have h1:=h k x (Nat.le_refl _) (by simp)
  show (body k x ()).bind _=_
  rw [h1]
  by_cases hp:e k x≠0
  ·simp [feI,hp,after]
  ·simp only [feI,hp,if_false,Option.bind_some,after]
   refine y7c l (k+1) fun j y hj hy=>h j y (by omega) ?_
   obtain ⟨m,hm⟩:∃ m,j - k=m+1:=⟨j - k - 1,by omega⟩
   rw [hm,List.getElem?_cons_succ]
   have:j - (k+1)=m:=by omega
   rw [this] at hy; exact hy
theorem x49 {α:Type} {p:Nat→α→Bool}:∀ (l:List α) (k:Nat),allI p k l=true↔∀ j x,l[j]?=some x→p (k+j) x=true
 | [],k=>by simp [allI]
 | x::l,k=>by
  simp only [allI,Bool.and_eq_true,x49 l (k+1)]
  constructor
  ·rintro ⟨h1,h2⟩ j y hj
   cases j with
   | zero=>simp at hj; subst hj; exact h1
   | succ j=>have:=h2 j y (by simpa using hj); rwa [show k+1+j=k+(j+1) by omega] at this
  ·intro h
   refine ⟨h 0 x rfl,fun j y hj => ?_⟩
   have:=h (j+1) y (by simpa using hj)
   rwa [show k+(j+1)=k+1+j by omega] at this
theorem eqY (a b:List Bs) (h:a.length≤1000000000):z39 a b=some (decide (a=b)):=by
 unfold z39
 by_cases hl:a.length=b.length
 ·rw [if_neg (by simp [hl]),if_pos h,z2u (p:=fun k x=>decide (b[k]?=some x)) (e:=true) (r0:=false) rfl a 0 fun j x _ hx => ?_]
  ·have:allI (fun k x=>decide (b[k]?=some x)) 0 a=decide (a=b):=by
    rw [Bool.eq_iff_iff,x49]
    simp only [Nat.zero_add,decide_eq_true_eq]
    constructor
    ·intro h
     apply List.ext_getElem?
     intro j
     cases hj:a[j]? with
     | some x=>rw [h j x hj]
     | none=>rw [List.getElem?_eq_none_iff] at hj; rw [eq_comm,List.getElem?_eq_none_iff]; omega
    ·rintro rfl j x hj; exact hj
   rw [this]
   cases decide (a=b) <;> rfl
  ·have hx:a[j]?=some x:=by simpa using hx
   have hj:=z1o hx
   obtain ⟨y,hy⟩:∃ y,b[j]?=some y:=⟨_,List.getElem?_eq_getElem (by omega)⟩
   unfold y1f
   rw [hy]
   simp only [Option.bind_some]
   by_cases hxy:x=y
   ·simp [hxy]
   ·have:¬ y=x:=fun e=>hxy e.symm
    simp [hxy,this]
 ·have:¬ a=b:=fun e=>hl (by rw [e])
  rw [if_pos (by simp; omega)]
  simp [this]
def vyN:Bs:=[118,97,114,121]
def vyL (P:List Bs):List Bs×Bool×Int:=if P.all tokB then (if P.any (fun x=>decide (x=[42])) then ([],true,0) else if 10 < ((setB (P.map lo)).length:Int) then ([],false,2) else (setB (P.map lo),false,0)) else ([],false,9)
theorem x1i {x:Bs} (h:tokB x=true):jo x=some (lo x):=y58 ⟨z3b h,by have:=y4d h; omega⟩
theorem x9v (x:Bs):decide (([42]:Bs)=lo x)=decide (x=[42]):=by
 rw [decide_eq_decide]
 constructor
 ·intro h
  unfold lo Lib.toLowerA at h
  cases x with
  | nil=>simp at h
  | cons c t =>
   simp only [List.map_cons,List.cons.injEq] at h
   obtain ⟨h1,h2⟩:=h
   have:=jm (fun c => !(Lib.lowerB c == 42) || c == 42) (by decide +kernel) c
   rw [← h1] at this
   have h3:c=42:=by simpa using this
   have h4:t=[]:=by simpa using h2.symm
   rw [h3,h4]
 ·rintro rfl; decide +kernel
theorem vyP:∀ (l pre:List Bs),(∀ x,x∈l→x.length≤2000)→rng (fun (k:Nat) (s:(List Bs))=>z2w k s) (fun (s:(List Bs))=>z0j s) l.length pre.length (pre++l)=if l.all tokB then z0j (pre++l.map lo) else some ([],false,9)
 | [],pre,_=>by simp [rng]
 | x::l,pre,h=>by
  have e1:(pre++x::l)[pre.length]?=some x:=by simp
  have e3:pre.length+1=(pre++[lo x]).length:=by simp
  have hst:z2w pre.length (pre++x::l)=if tokB x then some (.inl ((pre++[lo x])++l)) else some (.inr ([],false,9)):=by
   have e2:(pre++x::l).set pre.length (lo x)=(pre++[lo x])++l:=by simp
   unfold z2w
   rw [e1]
   simp only [Option.bind_some]
   rw [z5h x (by have:=h x (by simp); omega)]
   simp only [Option.bind_some]
   cases ht:tokB x
   ·rfl
   ·rw [if_neg (by simp),x1i ht]
    simp only [Option.bind_some]
    rw [e2]; rfl
  show (z2w pre.length (pre++x::l)).bind _=_
  rw [hst]
  cases ht:tokB x
  ·simp [ht,after]
  ·simp only [if_true,Option.bind_some,after]
   rw [e3,vyP l (pre++[lo x]) fun y hy=>h y (List.mem_cons_of_mem _ hy)]
   simp [ht]
theorem vyR:∀ (l:List Bs) (k:Nat) (b:Bool) (q:List Bs),(∀ x,x∈l→x.length≤2000)→q.length+l.length≤10000000→forL (fun (k:Nat) (x:Bs) (s:Bool×(List Bs))=>z10 k x s.1 s.2) (fun (s:Bool×(List Bs))=>z5x s.1 s.2) k l (b,q)=if l.all tokB then z5x (b || l.any fun x=>decide (x=[42])) (q++l.map lo) else some ([],false,9)
 | [],k,b,q,_,_=>by simp [forL]
 | x::l,k,b,q,h,hq=>by
  simp only [List.length_cons] at hq
  have hst:z10 k x b q=if tokB x then some (.inl (b || decide (x=[42]),q++[lo x])) else some (.inr ([],false,9)):=by
   unfold z10
   rw [y0v x (by have:=h x (by simp); omega)]
   simp only [Option.bind_some]
   cases ht:tokB x
   ·rfl
   ·rw [if_neg (by simp),x1i ht]
    simp only [Option.bind_some]
    rw [if_pos (by omega)]; rfl
  show (z10 k x b q).bind _=_
  rw [hst]
  cases ht:tokB x
  ·simp [ht,after]
  ·simp only [if_true,Option.bind_some,after]
   rw [vyR l (k+1) (b || decide (x=[42])) (q++[lo x]) (fun y hy=>h y (List.mem_cons_of_mem _ hy)) (by simp; omega)]
   simp [ht,Bool.or_assoc]
theorem y98 (l:List Bs) (h:l.length≤10000000) {β:Type} (f:List Bs→Option β):((Zs l).bind fun r=>(z1b r).bind fun r2=>f r2)=f (setB l):=by
 unfold Zs z1b
 rw [if_pos (by omega)]
 simp only [Option.bind_some]
 rw [if_pos (by simp; omega)]
 rfl
theorem x45:∀ l:List Bs,(l.map lo).any (fun x=>decide (([42]:Bs)=x))=l.any fun x=>decide (x=[42])
 | []=>rfl
 | x::l=>by rw [List.map_cons,List.any_cons,List.any_cons,x9v,x45 l]
theorem y75 (a:qc) (h0:hdsE a.Headers=0) (h2:∀ x,x∈a.Headers→nmOK x):Zz a=some (vyL (ptsB (qt vyN a.Headers)))∧z4q a=some (vyL (ptsB (qt vyN a.Headers))):=by
 have hl:=z9p h0
 have hv:=Qp a.Headers vyN (by omega) h2 ⟨rfl,by decide⟩
 have hV:=z98 h0 vyN
 have hp1:=z7o _ hV
 have hp2:=x0y _ hV
 have hpl:=y5f _ hV
 have hm:∀ x,x∈ptsB (qt vyN a.Headers)→x.length≤2000:=fun x hx=>by
  obtain ⟨v,hv1,hv2,_⟩:=y5e hx
  have:=hV.2 v hv1
  omega
 unfold Zz z4q
 show (kw a.Headers vyN).bind _=_∧(xm a.Headers vyN).bind _=_
 rw [hv.1,hv.2]
 simp only [Option.bind_some]
 rw [hp1,hp2]
 simp only [Option.bind_some]
 generalize ptsB (qt vyN a.Headers)=P at *
 rw [if_pos (by omega),if_pos (by omega)]
 have a1:=vyP P [] hm
 have a2:=vyR P 0 false [] hm (by simp; omega)
 simp only [List.length_nil,List.nil_append,Bool.false_or] at a1 a2
 rw [a1,a2]
 unfold vyL
 cases P.all tokB
 ·simp
 ·simp only [if_true]
  have hi:=z5q (P.map lo) [42] (by simp; omega)
  have hk:z4i (P.map lo)=some (setB (P.map lo)):=by
   unfold z4i uz
   rw [if_pos (by simp; omega)]
   simp only [Option.bind_some]
   exact y98 (P.map lo) (by simp; omega) fun r=>some r
  unfold z0j z5x z79
  rw [hi,hk]
  simp only [Option.bind_some]
  have hd:decide (0≤idxB (P.map lo) [42])=P.any fun x=>decide (x=[42]):=by
   unfold idxB
   rw [y7e,x45]
  rw [hd]
  cases P.any fun x=>decide (x=[42])
  ·simp only [Bool.false_eq_true,if_false]
   rw [y98 (P.map lo) (by simp; omega) fun r15=>if decide (10 < (r15.length:Int)) then (some ([],false,2)) else (some (r15,false,0))]
   by_cases h10:10 < ((setB (P.map lo)).length:Int)
   ·rw [if_pos (by simpa using h10),if_pos h10]; exact ⟨rfl,rfl⟩
   ·rw [if_neg (by simpa using h10),if_neg h10]; exact ⟨rfl,rfl⟩
  ·exact ⟨rfl,rfl⟩
theorem x5o {P:List Bs} {n:Bs} (h:n∈(vyL P).1):ascB n=true∧n.length≤100000:=by
 unfold vyL at h
 by_cases hP:P.all tokB=true
 ·rw [if_pos hP] at h
  have key:n∈setB (P.map lo):=by
   split at h
   ·simp at h
   ·split at h
    ·simp at h
    ·exact h
  rw [x7t] at key
  obtain ⟨x,hx,rfl⟩:=List.mem_map.1 key
  have ht:=List.all_eq_true.1 hP x hx
  have:=y4d ht
  exact ⟨x43 (z3b ht),by unfold lo Lib.toLowerA; rw [List.length_map]; omega⟩
 ·rw [if_neg hP] at h; simp at h
theorem x5p {P:List Bs}:(vyL P).1.length≤10:=by
 unfold vyL
 split
 ·split
  ·simp
  ·split
   ·simp
   ·show (setB (P.map lo)).length≤10
    omega
 ·simp
def suB (V:List Bs×Bool×Int) (a b:zz):Bool:=
 if (decide (a.Host≠b.Host) || decide (a.Path≠b.Path) || decide (a.Query≠b.Query)) || (decide (a.Method≠b.Method) && !(decide (a.Method=[71,69,84]) && decide (b.Method=[72,69,65,68]))) then false
 else if V.2.1 then false else !(V.1.any fun n => !decide (qt n a.Headers=qt n b.Headers))
theorem x4c {a b:zz} (ha:hnP a.Headers) (hb:hnP b.Headers) (n:Bs) (hn:ascB n=true∧n.length≤100000) :
  z1n n a b=some (!decide (qt n a.Headers=qt n b.Headers))∧Wu n a b=some (!decide (qt n a.Headers=qt n b.Headers)):=by
 have h1:=Qp a.Headers n ha.1 ha.2 hn
 have h2:=Qp b.Headers n hb.1 hb.2 hn
 have hl:(qt n a.Headers).length≤1000:=by unfold qt; rw [List.length_map]; have:=List.length_filter_le (nmB n) a.Headers; have:=ha.1; omega
 unfold z1n Wu
 rw [h1.1,h1.2,h2.1,h2.2]
 simp only [Option.bind_some]
 rw [eqY _ _ (by omega)]
 exact ⟨rfl,rfl⟩
theorem x6k {a b:zz} (ha:hnP a.Headers) (hb:hnP b.Headers) (r:qc) (V:List Bs×Bool×Int) (h1:Zz r=some V) (h0:V.2.2=0) (hV:V.1.length≤10∧∀ n,n∈V.1→ascB n=true∧n.length≤100000) :
  z42 a r b=some (suB V a b)∧(if ((((V.2.1 || (decide (a.Host≠b.Host))) || (decide (a.Path≠b.Path))) || (decide (a.Query≠b.Query))) || ((decide (a.Method≠b.Method)) && ((decide (a.Method≠[71,69,84])) || (decide (b.Method≠[72,69,65,68]))))) then (some (false,(0:Int))) else ((z1a V.1 (fun (a0:Bs)=>Wu a0 a b)).bind fun (r12:(Bool))=>some (!r12,(0:Int))))=some (suB V a b,0):=by
 have c1:z1a V.1 (fun (a0:Bs)=>z1n a0 a b)=some (V.1.any fun n => !decide (qt n a.Headers=qt n b.Headers)):=
  x3p V.1 (fun n => !decide (qt n a.Headers=qt n b.Headers)) (by omega) fun n hn=>(x4c ha hb n (hV.2 n hn)).1
 have c2:z1a V.1 (fun (a0:Bs)=>Wu a0 a b)=some (V.1.any fun n => !decide (qt n a.Headers=qt n b.Headers)):=
  x3p V.1 (fun n => !decide (qt n a.Headers=qt n b.Headers)) (by omega) fun n hn=>(x4c ha hb n (hV.2 n hn)).2
 unfold z42 suB
 rw [h1,c2]
 simp only [Option.bind_some]
 rw [c1]
 simp only [Option.bind_some,h0]
 generalize (V.1.any fun n => !decide (qt n a.Headers=qt n b.Headers))=z
 generalize V.2.1=y
 have e1:(decide (a.Method≠[71,69,84]) || decide (b.Method≠[72,69,65,68])) = !(decide (a.Method=[71,69,84]) && decide (b.Method=[72,69,65,68])):=by
  simp only [ne_eq,decide_not,Bool.not_and]
 rw [e1]
 generalize decide (a.Host≠b.Host)=x1
 generalize decide (a.Path≠b.Path)=x2
 generalize decide (a.Query≠b.Query)=x3
 generalize (decide (a.Method≠b.Method) && !(decide (a.Method=[71,69,84]) && decide (b.Method=[72,69,65,68])))=x4
 cases x1 <;> cases x2 <;> cases x3 <;> cases x4 <;> cases y <;> cases z <;> exact ⟨rfl,rfl⟩
def agN:Bs:=[97,103,101]
def agV (e:qr):Int:=match (qt agN e.Response.Headers)[0]? with | some x=>if sOK x then nOf x else 0 | none=>0
theorem y46 {x:Bs} (h:sOK x=true):0≤nOf x∧nOf x≤100000000:=by
 unfold sOK outP at h
 unfold nOf
 simp only [Bool.and_eq_true,Bool.not_eq_true',Bool.or_eq_false_iff,decide_eq_false_iff_not] at h
 rw [if_pos h.1]; omega
theorem x5b (e:qr):0≤agV e∧agV e≤100000000:=by
 unfold agV
 split
 ·split
  ·rename_i h; exact y46 h
  ·omega
 ·omega
theorem w48 (e:qr) (at_:Int) (h0:hdsE e.Response.Headers=0) (h2:∀ x,x∈e.Response.Headers→nmOK x) (ht:-1000000000000000≤at_ - e.At∧at_ - e.At≤1000000000000000) :
  z45 e at_=some (at_ - e.At+1000 * agV e)∧z4y e at_=some (at_ - e.At+1000 * agV e):=by
 have hl:=z9p h0
 have hv:=Qp e.Response.Headers agN (by omega) h2 ⟨rfl,by decide⟩
 have hV:=z98 h0 agN
 have hb:=x5b e
 have hJ:∀ n:Int,0≤n→n≤100000000→z0l e at_ n=some (at_ - e.At+1000 * n)∧z0i e at_ n=some (at_ - e.At+1000 * n):=fun n h1 h3=>by
  unfold z0l z0i
  rw [qg (n:=at_ - e.At) (by omega),qg (n:=n * 1000) (by omega),qg (n:=1000 * n) (by omega),qg (by omega),qg (by omega),Int.mul_comm n 1000]
  exact ⟨rfl,rfl⟩
 unfold z45 z4y
 show (kw e.Response.Headers agN).bind _=_∧(xm e.Response.Headers agN).bind _=_
 rw [hv.1,hv.2]
 simp only [Option.bind_some]
 unfold agV at hb ⊢
 cases hx:qt agN e.Response.Headers with
 | nil =>
  obtain ⟨j1,j2⟩:=hJ 0 (by omega) (by omega)
  simp [j1,j2]
 | cons x l =>
  have hxl:x.length≤2000:=hV.2 x (by rw [hx]; simp)
  obtain ⟨w,w1,w2,w3⟩:=x0r x 9 (by omega) (by omega)
  have w1':Zx x 9=some (w,okN 9 x):=w1
  rw [hx] at hb
  simp only [List.length_cons,List.getElem?_cons_zero,Option.bind_some] at hb ⊢
  have hpos:decide (0 < ((l.length+1:Nat):Int))=true:=by simp
  rw [if_pos hpos,if_pos hpos,x0h x (by omega),w1']
  simp only [Option.bind_some]
  rw [z9n]
  simp only [Option.bind_some]
  unfold z6f
  cases hs:sOK x
  ·obtain ⟨j1,j2⟩:=hJ 0 (by omega) (by omega)
   simp only [Bool.false_eq_true,if_false]
   refine ⟨j1,?_⟩
   unfold sOK at hs
   cases ho:okN 9 x
   ·simp only [Bool.false_eq_true,if_false]; exact j2
   ·rw [ho,Bool.true_and] at hs
    rw [w2 ho,hs]
    simp only [if_true,Bool.false_eq_true,if_false]; exact j2
  ·have hb2:=y46 hs
   obtain ⟨j1,j2⟩:=hJ (nOf x) hb2.1 hb2.2
   simp only [if_true]
   refine ⟨j1,?_⟩
   unfold sOK at hs
   simp only [Bool.and_eq_true] at hs
   have hw:w=nOf x:=by unfold nOf; rw [if_pos hs.1]; exact w2 hs.1
   rw [hs.1]
   simp only [if_true]
   rw [w2 hs.1,hs.2,← w2 hs.1]
   simp only [if_true]
   rw [hw]; exact j2
def enP (e:qr):Prop:=(rqA e.Request∧qOK e.Request.Query)∧haP 100 e.Response.Headers∧e.Tags.length≤100∧∀ t,t∈e.Tags→t.length≤1000
theorem z9q {n:Nat} {l:List zn} (h:haP n l):∀ x,x∈l→nmOK x:=fun x hx=>(h.2 x hx).2
theorem x8j (r:qc) (h:hdsP r.Headers):∃ e,Zv r=some e∧z4r r=some e∧(e=0→hdsE r.Headers=0):=by
 obtain ⟨e,e1,e2⟩:=x8i r h
 refine ⟨e,e1,e2,fun h0 => ?_⟩
 subst h0
 have hh:=z9o r.Headers h
 unfold Zv at e1
 rw [y1t,hh.1] at e1
 simp only [Option.bind_some] at e1
 by_cases h0:hdsE r.Headers=0
 ·exact h0
 ·split at e1
  ·simp at e1
  ·rw [if_pos (by simpa using h0)] at e1
   exact absurd (Option.some.inj e1) h0
def tgE (l:List Bs) (k:Nat) (x:Bs):Int:=if keyP x then (match (if 0 < k then l[k - 1]? else none) with | some y=>if Op.bytesLess x y || x == y then 7 else 0 | none=>0) else 5
theorem y87 (l:List Bs) (h:∀ t,t∈l→t.length≤1000) (e:qr) (he:e.Tags=l) (j:Nat) (x:Bs) (hx:l[j]?=some x) :
  z5a l j x=(if tgE l j x≠0 then some (.inr (tgE l j x)) else some (.inl ()))∧z6a e j x=(if tgE l j x≠0 then some (.inr (tgE l j x)) else some (.inl ())):=by
 have hxl:=h x (List.mem_of_getElem? hx)
 unfold z5a z6a z5b z6b tgE
 rw [w2n x (by omega),w0h x (by omega),he]
 simp only [Option.bind_some]
 cases keyP x
 ·simp
 ·cases j with
  | zero=>simp
  | succ j =>
   have hj:((j+1:Nat):Int) - 1=(j:Int):=by omega
   have hlt:=z1o hx
   obtain ⟨y,hy⟩:∃ y,l[j]?=some y:=⟨_,List.getElem?_eq_getElem (by omega)⟩
   rw [hj,z6y,hy]
   simp only [Bool.not_true,Bool.false_eq_true,if_false,Option.bind_some,if_true,Nat.zero_lt_succ,Nat.add_sub_cancel,hy]
   cases (Op.bytesLess x y || x == y) <;> simp
theorem w3q (e:qr) (a b:Int):forL (fun (k:Nat) (x:Int) (s:Unit)=>z9t k x) (fun (s:Unit)=>z6d e) 0 [a,b] ()=if a≠0 then some a else if b≠0 then some b else z6d e:=by
 rw [y7c [a,b] 0 (e:=fun _ x=>x) (fun j x _ _=>by unfold z9t; by_cases h:x=0 <;> simp [h])]
 simp only [feI]
 by_cases h:a=0
 ·by_cases h2:b=0
  ·simp [h,h2]
  ·simp [h,h2]
 ·simp [h]
theorem w3v (e:qr) (h:enP e):∃ f,z81 e=some f∧z4w e=some f ∧
  (f=0→uj e.Request=some 0∧hdsE e.Response.Headers=0∧momP e.At=true∧(vyL (ptsB (qt vyN e.Response.Headers))).2.2=0):=by
 obtain ⟨⟨⟨hr,hr2⟩,hq⟩,ha,ht,ht2⟩:=h
 obtain ⟨e1,a1,a2,a3⟩:=y49 e.Request hr
 obtain ⟨e2,b1,b2,b3⟩:=x8j e.Response (y62 ha (by omega))
 unfold z81 z4w
 rw [a1,a2,b1,b2]
 simp only [Option.bind_some]
 rw [if_pos (show ([e1,e2]:List Int).length≤1000000000 by simp),w3q]
 by_cases z1:e1=0
 ·subst z1
  simp only [ne_eq,not_true_eq_false,decide_false,Bool.false_eq_true,if_false]
  by_cases z2:e2=0
  ·subst z2
   have h0:=b3 rfl
   obtain ⟨v1,v2⟩:=y75 e.Response h0 (z9q ha)
   simp only [not_true_eq_false,decide_false,Bool.false_eq_true,if_false]
   unfold z6d
   rw [z5i,z5i,y5t,y5t]
   simp only [Option.bind_some]
   have hJ:∀ b:Bool,z2y e b=z0f e b∧∃ f,z0f e b=some f∧(f=0→b=false∧(vyL (ptsB (qt vyN e.Response.Headers))).2.2=0):=fun b=>by
    unfold z2y z0f y2h
    cases b
    ·simp only [Bool.false_eq_true,if_false]
     by_cases h20:20 < (e.Tags.length:Int)
     ·have h2p:decide (20 < (e.Tags.length:Int))=true:=by simpa using h20
      rw [if_pos h2p,if_pos h2p]
      exact ⟨rfl,2,rfl,by simp⟩
     ·have h2n:¬ decide (20 < (e.Tags.length:Int))=true:=by simpa using h20
      have hln:e.Tags.length≤1000000000:=by omega
      rw [if_neg h2n,if_neg h2n,if_pos hln,if_pos hln]
      have t1:forL (fun (k:Nat) (x:Bs) (s:Unit)=>z5a e.Tags k x) (fun (s:Unit)=>y2u) 0 e.Tags ()=some (feI (tgE e.Tags) 0 e.Tags):=
       y3q rfl e.Tags 0 fun j x _ hx=>(y87 e.Tags ht2 e rfl j x (by simpa using hx)).1
      have t2:forL (fun (k:Nat) (x:Bs) (s:Unit)=>z6a e k x) (fun (s:Unit)=>z6c e) 0 e.Tags ()=if feI (tgE e.Tags) 0 e.Tags≠0 then some (feI (tgE e.Tags) 0 e.Tags) else z6c e:=
       y7c e.Tags 0 fun j x _ hx=>(y87 e.Tags ht2 e rfl j x (by simpa using hx)).2
      rw [t1,t2]
      simp only [Option.bind_some]
      unfold z6c
      rw [v1,v2]
      simp only [Option.bind_some]
      by_cases hf:feI (tgE e.Tags) 0 e.Tags=0
      ·rw [if_neg (show ¬ decide (feI (tgE e.Tags) 0 e.Tags≠0)=true by simpa using hf),if_neg (show ¬ feI (tgE e.Tags) 0 e.Tags≠0 by simpa using hf)]
       exact ⟨rfl,_,rfl,fun h=>⟨trivial,h⟩⟩
      ·rw [if_pos (show decide (feI (tgE e.Tags) 0 e.Tags≠0)=true by simpa using hf),if_pos hf]
       exact ⟨rfl,_,rfl,fun h=>absurd h hf⟩
    ·exact ⟨rfl,1,rfl,by simp⟩
   cases hm:momP e.At
   ·obtain ⟨j1,f,j2,j3⟩:=hJ true
    simp only [Bool.not_false,if_true]
    rw [j1,j2]
    exact ⟨f,rfl,rfl,fun h=>by have:=(j3 h).1; cases this⟩
   ·obtain ⟨j1,f,j2,j3⟩:=hJ (!momP e.Used)
    simp only [Bool.not_true,Bool.false_eq_true,if_false]
    rw [j1,j2]
    exact ⟨f,rfl,rfl,fun h=>⟨trivial,h0,trivial,(j3 h).2⟩⟩
  ·rw [if_pos (show decide (¬e2=0)=true by simpa using z2),if_pos z2]
   exact ⟨e2,rfl,rfl,fun h=>absurd h z2⟩
 ·rw [if_pos (show decide (e1≠0)=true by simpa using z1),if_pos z1]
  exact ⟨e1,rfl,rfl,fun h=>absurd h z1⟩
theorem x9l {a b:zz} {x y:zz×Int} (h1:Wp a=some x) (h2:Wp b=some y) :
  z8z a b=some (x.1,(if x.2=0 then y.1 else zz.mk 0 [] [] [] [] [] [] []),if x.2=0 then y.2 else x.2):=by
 unfold z8z z6u
 rw [h1,h2]
 simp only [Option.bind_some]
 by_cases h:x.2=0
 ·rw [if_pos (by simpa using h),if_pos h,if_pos h]
 ·rw [if_neg (by simpa using h),if_neg h,if_neg h]
theorem x6l (e:qr) (r:zz) (he:enP e) (h0:hdsE e.Response.Headers=0) (hv:(vyL (ptsB (qt vyN e.Response.Headers))).2.2=0) {x y:zz×Int}
  (x2:Wv e.Request=some x) (y2:Wv r=some y) (x3:hnP x.1.Headers) (y3:hnP y.1.Headers) :
  z8l e r=some (if x.2≠0 then (false,x.2) else if y.2≠0 then (false,y.2) else (suB (vyL (ptsB (qt vyN e.Response.Headers))) x.1 y.1,0)) ∧
  z42 x.1 e.Response y.1=some (suB (vyL (ptsB (qt vyN e.Response.Headers))) x.1 y.1):=by
 obtain ⟨v1,v2⟩:=y75 e.Response h0 (z9q he.2.1)
 obtain ⟨s1,s2⟩:=x6k x3 y3 e.Response _ v1 hv ⟨x5p,fun n hn=>x5o hn⟩
 refine ⟨?_,s1⟩
 unfold z8l
 rw [x2,y2,v2]
 simp only [Option.bind_some]
 by_cases hx:x.2=0
 ·rw [if_neg (show ¬ decide (x.2≠0)=true by simpa using hx),if_neg (show ¬ x.2≠0 by simpa using hx)]
  by_cases hy:y.2=0
  ·rw [if_neg (show ¬ decide (y.2≠0)=true by simpa using hy),if_neg (show ¬ y.2≠0 by simpa using hy)]
   exact s2
  ·rw [if_pos (show decide (y.2≠0)=true by simpa using hy),if_pos hy]
 ·rw [if_pos (show decide (x.2≠0)=true by simpa using hx),if_pos hx]
def rqS (r:zz):Prop:=rqA r∧qOK r.Query
def rqQ (r:zz):Prop:=(rqP r∧haP 101 r.Headers)∧qOK r.Query
theorem x8f {r:zz} (h:rqS r):rqQ r:=⟨⟨h.1.1,jf h.1.2 (by omega)⟩,h.2⟩
theorem x4v {k:Int} {s:zt} (h:SB k s) (hk:k≤50000) (v:Int):Ok (z4z s v) fun r=>rqS r.1∧SB (k+400) r.2:=by
 have hJ5:∀ (r3 r5:Bs×zt) (l:List zn) (c:List Int) (a:Int) (p q:Bs),r3.1.length≤100→r5.1∈ki→p.length≤100000→q.length≤100000∧qOK q→haP 20 l→SB (k+400) (zt.mk c a)→Ok (z2k v r3 r5 l c a p q) fun r=>rqS r.1∧SB (k+400) r.2:=by
  intro r3 r5 l c a p q h1 h2 h3 h4 h5 hs
  unfold z2k
  exact yw ⟨⟨⟨⟨by show r3.1.length≤_; omega,h2,h3,h4.1,by simp,y62 h5 (by omega)⟩,jf h5 (by omega)⟩,h4.2⟩,hs⟩
 have hJ4:∀ (r3 r5 r7 r9:Bs×zt) (c:List Int) (a:Int) (l:List zn),r3.1.length≤100→r5.1∈ki→r7.1.length≤100→r9.1.length≤100∧qOK r9.1→haP 20 l→SB (k+100) (zt.mk c a)→Ok (z2l v r3 r5 r7 r9 c a l) fun r=>rqS r.1∧SB (k+400) r.2:=by
  intro r3 r5 r7 r9 c a l h1 h2 h3 h4 h5 hs
  unfold z2l
  refine yg (jb hs (by omega) 40 (by omega)) fun r hr=>qz (fun _ => ?_) (fun _=>hJ5 _ _ _ _ _ _ _ h1 h2 (by omega) ⟨by omega,h4.2⟩ h5 (hr.mono (by omega)))
  exact yg (x9a hr (by omega)) fun r50 h50=>yg (x8x h50.2 (by omega)) fun r52 h52=>hJ5 _ _ _ _ _ _ _ h1 h2 h50.1 ⟨by have:=h52.1.1; omega,h52.1.2⟩ h5 (h52.2.mono (by omega))
 have hJ3:∀ (r3 r5 r7 r9:Bs×zt) (c:List Int) (a:Int) (l:List zn),r3.1.length≤100→r5.1∈ki→r7.1.length≤100→r9.1.length≤100∧qOK r9.1→haP 10 l→SB (k+80) (zt.mk c a)→Ok (z2m v r3 r5 r7 r9 c a l) fun r=>rqS r.1∧SB (k+400) r.2:=by
  intro r3 r5 r7 r9 c a l h1 h2 h3 h4 h5 hs
  unfold z2m
  refine yg (jb hs (by omega) 8 (by omega)) fun r hr=>qz (fun _ => ?_) (fun _=>hJ4 _ _ _ _ _ _ _ h1 h2 h3 h4 (jf h5 (by omega)) (hr.mono (by omega)))
  exact yg (xi hr (by omega) 100 _ ⟨by simp,by simp⟩ (by decide)) fun r41 h41=>ok_g (by have:=h5.1; omega) (hJ4 _ _ _ _ _ _ _ h1 h2 h3 h4 (jf (z5s h5 _ _ ⟨rfl,by simp⟩ (by have:=h41.1; omega)) (by omega)) (h41.2.mono (by omega)))
 have hJ2:∀ (r3 r5 r7 r9:Bs×zt) (c:List Int) (a:Int) (l:List zn),r3.1.length≤100→r5.1∈ki→r7.1.length≤100→r9.1.length≤100∧qOK r9.1→haP 5 l→SB (k+70) (zt.mk c a)→Ok (z2n v r3 r5 r7 r9 c a l) fun r=>rqS r.1∧SB (k+400) r.2:=by
  intro r3 r5 r7 r9 c a l h1 h2 h3 h4 h5 hs
  unfold z2n
  refine yg (jb hs (by omega) 12 (by omega)) fun r hr=>qz (fun _ => ?_) (fun _=>hJ3 _ _ _ _ _ _ _ h1 h2 h3 h4 (jf h5 (by omega)) (hr.mono (by omega)))
  exact ok_g (by have:=h5.1; omega) (hJ3 _ _ _ _ _ _ _ h1 h2 h3 h4 (jf (z5s h5 _ _ ⟨rfl,by simp⟩ (by simp)) (by omega)) (hr.mono (by omega)))
 have hJ1:∀ (r3 r5 r7 r9:Bs×zt) (c:List Int) (a:Int) (l:List zn),r3.1.length≤100→r5.1∈ki→r7.1.length≤100→r9.1.length≤100∧qOK r9.1→haP 2 l→SB (k+30) (zt.mk c a)→Ok (z2o v r3 r5 r7 r9 c a l) fun r=>rqS r.1∧SB (k+400) r.2:=by
  intro r3 r5 r7 r9 c a l h1 h2 h3 h4 h5 hs
  unfold z2o
  refine yg (jb hs (by omega) 4 (by omega)) fun r hr=>qz (fun _ => ?_) (fun _=>hJ2 _ _ _ _ _ _ _ h1 h2 h3 h4 (jf h5 (by omega)) (hr.mono (by omega)))
  exact yg (x42 hr (by omega)) fun r25 h25=>ok_g (by have:=h5.1; omega) (hJ2 _ _ _ _ _ _ _ h1 h2 h3 h4 (jf (z5s h5 _ _ ⟨rfl,by simp⟩ h25.1) (by omega)) (h25.2.mono (by omega)))
 unfold z4z
 refine yg (xi h (by omega) 100 _ ⟨by simp,by simp⟩ (by decide)) fun r3 h3=>yg (xz h3.2 (by omega) _ ⟨by simp,by simp⟩) fun r5 h5=>yg (xi h5.2 (by omega) 100 _ ⟨by simp,by simp⟩ (by decide)) fun r7 h7=>yg (xz h7.2 (by omega) _ ⟨by simp,by simp⟩) fun r9 h9=>yg (jb h9.2 (by omega) 3 (by omega)) fun r11 h11 => ?_
 have h9q:r9.1.length≤100∧qOK r9.1:=by
  have hm:=h9.1
  simp only [List.mem_cons,List.not_mem_nil,or_false] at hm
  rcases hm with e | e | e | e <;> rw [e] <;> exact ⟨by decide,.inl (by decide)⟩
 have hh:r5.1∈ki:=(show ∀ x,x∈([[97,46,98],[97,46,98],[65,46,66,58,56,48],[99,46,100]]:List Bs)→x∈ki by decide +kernel) _ h5.1
 refine qz (fun _ => ?_) (fun _=>hJ1 _ _ _ _ _ _ _ h3.1 hh h7.1 h9q (y3c 2) (h11.mono (by omega)))
 exact yg (y09 h11 (by omega) 3000 _ ⟨by simp,by simp⟩ (by decide +kernel)) fun r14 h14=>yg (xi h14.2 (by omega) 100 _ ⟨by simp,by simp⟩ (by decide)) fun r16 h16=>ok_g (by simp) (hJ1 _ _ _ _ _ _ _ h3.1 hh h7.1 h9q (jf (z5s (y3c 0) _ _ h14.1 (by have:=h16.1; omega)) (by omega)) (h16.2.mono (by omega)))
theorem w3w {k:Int} {s:zt} (h:SB k s) (hk:k≤4000):Ok (z8r s) fun r=>enP r.1∧SB (k+620) r.2:=by
 unfold z8r
 refine yg (x4v h (by omega) 0) fun r2 h2=>yg (w4k h2.2 (by omega)) fun r4 h4=>yg (y1r h4.2 (by omega) _ ⟨by simp,by simp⟩) fun r6 h6=>yg (Zr h6.2 (by omega) 3 (by omega)) fun r8 h8 => ?_
 have hJ:∀ (c30:List Int) (c31:Int) (c32:Bs) (c33:Int) (c34:List Bs) (c35:Int),SB (k+620) (zt.mk c30 c31)→c32∈ki→(c34.length≤100∧∀ t,t∈c34→t.length≤1000)→Ok (Ql r2 r4 c30 c31 c32 c33 c34 c35) fun r=>enP r.1∧SB (k+620) r.2:=by
  intro c30 c31 c32 c33 c34 c35 hs hh ht
  obtain ⟨⟨⟨⟨q1,q2,q3,q4,q5,q6⟩,qA⟩,qq⟩,_⟩:=h2
  exact yw ⟨⟨⟨⟨⟨q1,hh,q3,q4,q5,q6⟩,qA⟩,qq⟩,h4.1,ht⟩,hs⟩
 obtain ⟨⟨n1,n2,_⟩,n4⟩:=h8
 have hx:∃ x,at? ([[],[[114,101,100]],[[98,108,117,101],[114,101,100]]]:List (List Bs)) r8.1=some x∧(x.length≤100∧∀ t,t∈x→t.length≤1000):=by
  have:=n2 (by omega)
  rcases (show r8.1=0∨r8.1=1∨r8.1=2 by omega) with e | e | e <;> rw [e] <;> exact ⟨_,rfl,by decide,by decide⟩
 obtain ⟨x10,x1,x2⟩:=hx
 have hhost:r2.1.Host∈ki:=h2.1.1.1.2.1
 rw [x1]
 simp only [Option.bind_some]
 refine yg (jb n4 (by omega) 20 (by omega)) fun r12 h12=>qz (fun _ => ?_) (fun _=>hJ _ _ _ _ _ _ (h12.mono (by omega)) hhost x2)
 refine yg (Zr h12 (by omega) 4 (by omega)) fun r15 h15 => ?_
 refine qz (fun _=>yg (y1x h15.2 (by omega) 0 100 (by omega)) fun r18 h18=>hJ _ _ _ _ _ _ (h18.2.mono (by omega)) hhost x2) (fun _ => ?_)
 refine qz (fun _=>yg (y1x h15.2 (by omega) 0 100 (by omega)) fun r18 h18=>hJ _ _ _ _ _ _ (h18.2.mono (by omega)) hhost x2) (fun _ => ?_)
 refine qz (fun _=>yg (Zr h15.2 (by omega) 3 (by omega)) fun r24 h24 => ?_) (fun _=>yg (w2w h15.2 (by omega)) fun r28 h28=>hJ _ _ _ _ _ _ (h28.2.mono (by omega)) h28.1 x2)
 obtain ⟨⟨m1,m2,_⟩,m4⟩:=h24
 have hx:∃ x,at? ([[[114,101,100],[98,108,117,101]],[[]],[[65]]]:List (List Bs)) r24.1=some x∧(x.length≤100∧∀ t,t∈x→t.length≤1000):=by
  have:=m2 (by omega)
  rcases (show r24.1=0∨r24.1=1∨r24.1=2 by omega) with e | e | e <;> rw [e] <;> exact ⟨_,rfl,by decide,by decide⟩
 obtain ⟨x26,y1,y2⟩:=hx
 rw [y1]
 simp only [Option.bind_some]
 exact hJ _ _ _ _ _ _ (m4.mono (by omega)) hhost y2
def nB (n:Int):Prop:=-1≤n∧n≤100000000
def cB (c:zy):Prop:=nB c.MaxAge∧nB c.Shared∧nB c.Stale∧nB c.OnError∧nB c.MaxStale∧nB c.MinFresh
theorem w4o {c:zy} (h:cB c) (y:Int) (b:Bool):cB (ku c y b):=by
 unfold ku
 (repeat' split) <;> exact h
theorem w4n {c:zy} (h:cB c) (y n:Int) (hn:nB n):cB (xh c y n):=by
 obtain ⟨h1,h2,h3,h4,h5,h6⟩:=id h
 unfold xh
 (repeat' split) <;> first | exact ⟨hn,h2,h3,h4,h5,h6⟩ | exact ⟨h1,hn,h3,h4,h5,h6⟩ | exact ⟨h1,h2,hn,h4,h5,h6⟩ | exact ⟨h1,h2,h3,hn,h5,h6⟩ | exact ⟨h1,h2,h3,h4,hn,h6⟩ | exact ⟨h1,h2,h3,h4,h5,hn⟩ | exact h
theorem x6c {c:zy} {x:Bs} (h:cB c) (ht:(jy c x).1=true):cB (jy c x).2:=by
 have hd:jy c x=(let r:=Lib.cut x [61]
  if !tokB r.1 || (r.2.2 && !sOK r.2.1) then (false,c)
  else if 0≤idxB flN (lo r.1) then (!r.2.2,ku c (idxB flN (lo r.1)) true)
  else if idxB cnN (lo r.1) < 0 then (true,c)
  else (r.2.2,numC c (idxB cnN (lo r.1)) (nOf r.2.1))):=rfl
 rw [hd] at ht ⊢
 simp only at ht ⊢
 generalize Lib.cut x [61]=r at *
 by_cases h1:(!tokB r.1 || (r.2.2 && !sOK r.2.1))=true
 ·rw [if_pos h1] at ht; cases ht
 ·rw [if_neg h1] at ht ⊢
  by_cases h2:0≤idxB flN (lo r.1)
  ·rw [if_pos h2]; exact w4o h _ _
  ·rw [if_neg h2] at ht ⊢
   by_cases h3:idxB cnN (lo r.1) < 0
   ·rw [if_pos h3]; exact h
   ·rw [if_neg h3] at ht ⊢
    have h4:r.2.2=true:=ht
    rw [h4] at h1
    have h5:sOK r.2.1=true:=by
     cases hs:sOK r.2.1
     ·rw [hs] at h1; simp at h1
     ·rfl
    have hb:=y46 h5
    show cB (numC c _ (nOf r.2.1))
    unfold numC
    split
    ·exact w4n h _ _ ⟨by omega,hb.2⟩
    ·exact h
theorem w4q:cB (tc c0):=by unfold cB nB; decide
theorem x01 (l:List zn) (h0:hdsE l=0) (h2:∀ x,x∈l→nmOK x):Ok (Zd l) fun r=>z1k l=some r∧(r.2=0→cB r.1):=by
 have hcnt:=z9p h0
 obtain ⟨r,r1,r2⟩:=x9e l h0 (by omega) h2
 have hv:=Qp l ccL (by omega) h2 ⟨rfl,by decide⟩
 have hV:=z98 h0 ccL
 have hp1:=z7o _ hV
 have hpl:=y5f _ hV
 have key:Ok (Zd l) fun r=>r.2=0→cB r.1:=by
  rw [y5j]
  unfold z2x
  show Ok ((kw l ccL).bind _) _
  rw [hv.1]
  simp only [Option.bind_some]
  rw [hp1]
  simp only [Option.bind_some]
  refine ok_g (by omega) ?_
  refine y1w (fun _ (s:Tst)=>cB (tc s)) (ptsB (qt ccL l)) 0 c0 w4q (fun j x s _ hx hs => ?_) (fun s hs => ?_)
  ·obtain ⟨v,hv1,hv2,_⟩:=y5e (List.mem_of_getElem? hx)
   have hvl:=hV.2 v hv1
   have a:=y5k j x (tc s) (by omega)
   refine ⟨stT (tc s) x,a,?_⟩
   unfold stT
   cases ht:(jy (tc s) x).1
   ·exact fun h=>by cases h
   ·exact x6c hs ht
  ·exact yw fun _=>hs
 obtain ⟨q,q1,q2⟩:=key
 rw [r1] at q1
 cases q1
 exact ⟨r,r1,r2,q2⟩
def ltV (c:zy):Int:=if c.NoCache then 0 else if 0≤c.Shared then 1000 * c.Shared else max 0 (1000 * c.MaxAge)
theorem y57 {c:zy} (h:cB c):Wz c=some (ltV c)∧z4p c=some (ltV c)∧0≤ltV c∧ltV c≤100000000000:=by
 obtain ⟨h1,h2,_⟩:=h
 unfold nB at h1 h2
 unfold Wz z4p ltV
 rw [qg (n:=c.Shared * 1000) (by omega),qg (n:=c.MaxAge * 1000) (by omega),qg (n:=1000 * c.Shared) (by omega),qg (n:=1000 * c.MaxAge) (by omega)]
 cases c.NoCache
 ·simp only [Bool.false_eq_true,if_false]
  by_cases hs:0≤c.Shared
  ·rw [if_pos (show decide (c.Shared≠-1)=true by simp; omega),if_pos (show decide (0≤c.Shared)=true by simpa using hs),if_pos hs,Int.mul_comm c.Shared 1000]
   exact ⟨rfl,rfl,by omega,by omega⟩
  ·rw [if_neg (show ¬ decide (c.Shared≠-1)=true by simp; omega),if_neg (show ¬ decide (0≤c.Shared)=true by simpa using hs),if_neg hs]
   by_cases ha:0≤c.MaxAge
   ·rw [if_pos (show decide (c.MaxAge≠-1)=true by simp; omega),Int.mul_comm c.MaxAge 1000]
    exact ⟨by congr 1; omega,rfl,by omega,by omega⟩
   ·rw [if_neg (show ¬ decide (c.MaxAge≠-1)=true by simp; omega)]
    exact ⟨by congr 1; omega,rfl,by omega,by omega⟩
 ·exact ⟨rfl,rfl,by simp,by simp⟩
def tlV (q c:zy) (over:Int) (b:Bool):Int:=
 if b then 1 else if decide (over < 0) || c.Must then 3 else if decide (0≤q.MaxStale) && decide (over≤1000 * q.MaxStale) then 1 else if (decide (0≤c.Stale) && decide (over < 1000 * c.Stale)) && decide (q.MaxAge < 0) then 2 else 3
def dcV (q c:zy) (old:Int):Int:=
 if c.NoCache || q.NoCache then 3 else tlV q c (old - ltV c) (decide (old - ltV c < 0) && (decide (q.MaxAge < 0) || decide (old≤1000 * q.MaxAge)) && (decide (q.MinFresh < 0) || decide (old - ltV c≤-1000 * q.MinFresh)))
theorem w32 {q c:zy} (hq:cB q) (hc:cB c) (old:Int) (ho:-1000000000000000≤old∧old≤1000000000000000):z44 q c old=some (dcV q c old):=by
 obtain ⟨l1,_,l3,l4⟩:=y57 hc
 obtain ⟨q1,q2,q3,q4,q5,q6⟩:=hq
 obtain ⟨c1,c2,c3,c4,c5,c6⟩:=hc
 unfold nB at *
 have ew:wr (old - ltV c)=old - ltV c:=qg (by omega)
 have hJ:∀ b,Qn q c old (ltV c) b=some (tlV q c (old - ltV c) b):=fun b=>by
  unfold Qn tlV
  rw [ew,qg (n:=q.MaxStale * 1000) (by omega),qg (n:=c.Stale * 1000) (by omega),Int.mul_comm q.MaxStale 1000,Int.mul_comm c.Stale 1000]
  have e1:decide (q.MaxStale≠-1)=decide (0≤q.MaxStale):=decide_eq_decide.2 (by omega)
  have e2:decide (c.Stale≠-1)=decide (0≤c.Stale):=decide_eq_decide.2 (by omega)
  have e3:decide (q.MaxAge=-1)=decide (q.MaxAge < 0):=decide_eq_decide.2 (by omega)
  rw [e1,e2,e3]
  cases b
  ·simp only [Bool.false_eq_true,if_false]
   split
   ·rfl
   ·split
    ·rfl
    ·split <;> rfl
  ·rfl
 unfold z44 y2q dcV
 rw [l1]
 simp only [Option.bind_some]
 rw [ew,qg (n:=q.MaxAge * 1000) (by omega),qg (n:=(-q.MinFresh) * 1000) (by omega),hJ,hJ,hJ]
 have e1:decide (q.MaxAge=-1)=decide (q.MaxAge < 0):=decide_eq_decide.2 (by omega)
 have e2:decide (q.MinFresh=-1)=decide (q.MinFresh < 0):=decide_eq_decide.2 (by omega)
 have e3:(-q.MinFresh) * 1000=-1000 * q.MinFresh:=by omega
 rw [e1,e2,e3,Int.mul_comm q.MaxAge 1000,Bool.or_comm q.NoCache c.NoCache,if_pos (show -9223372036854775807≤q.MinFresh∧q.MinFresh≤9223372036854775807 by omega)]
 cases (c.NoCache || q.NoCache)
 ·simp only [Bool.false_eq_true,if_false]
  cases decide (old - ltV c < 0)
  ·simp
  ·cases (decide (q.MaxAge < 0) || decide (old≤1000 * q.MaxAge))
   ·simp
   ·cases decide (q.MinFresh < 0) <;> simp
 ·rfl
theorem w34 {q c:zy} (hq:cB q) (hc:cB c) (old:Int) (ho:-1000000000000000≤old∧old≤1000000000000000) (r3 r6:zy×Int) (h3:r3.1=q) (h6:r6.1=c) :
  (if (r6.1.NoCache || r3.1.NoCache) then (some (3,0)) else (if decide ((wr (old - ltV c)) < 0) then (if decide (r3.1.MaxAge < 0) then (if decide (r3.1.MinFresh < 0) then (kj r3 r6 old (ltV c) true) else (kj r3 r6 old (ltV c) (decide ((wr (old - ltV c))≤(wr ((-1000) * r3.1.MinFresh)))))) else ((z1g r3.1.MaxAge old).bind fun (r23:(Bool))=>if r23 then (if decide (r3.1.MinFresh < 0) then (kj r3 r6 old (ltV c) true) else (kj r3 r6 old (ltV c) (decide ((wr (old - ltV c))≤(wr ((-1000) * r3.1.MinFresh)))))) else (kj r3 r6 old (ltV c) false))) else (kj r3 r6 old (ltV c) false)))=some (dcV q c old,(0:Int)):=by
 subst h3 h6
 obtain ⟨_,_,l3,l4⟩:=y57 hc
 obtain ⟨q1,q2,q3,q4,q5,q6⟩:=hq
 obtain ⟨c1,c2,c3,c4,c5,c6⟩:=hc
 unfold nB at *
 have ew:wr (old - ltV r6.1)=old - ltV r6.1:=qg (by omega)
 have hJ:∀ b,kj r3 r6 old (ltV r6.1) b=some (tlV r3.1 r6.1 (old - ltV r6.1) b,0):=fun b=>by
  unfold kj tlV z1g
  simp only [Option.bind_some]
  rw [ew,qg (n:=1000 * r3.1.MaxStale) (by omega),qg (n:=1000 * r6.1.Stale) (by omega)]
  cases b
  ·simp only [Bool.false_eq_true,if_false]
   split
   ·rfl
   ·split
    ·rfl
    ·split <;> rfl
  ·rfl
 unfold z1g dcV
 simp only [Option.bind_some]
 rw [ew,qg (n:=1000 * r3.1.MaxAge) (by omega),qg (n:=(-1000) * r3.1.MinFresh) (by omega),hJ,hJ,hJ]
 cases (r6.1.NoCache || r3.1.NoCache)
 ·simp only [Bool.false_eq_true,if_false]
  cases decide (old - ltV r6.1 < 0)
  ·simp
  ·by_cases hm:r3.1.MaxAge < 0
   ·rw [show decide (r3.1.MaxAge < 0)=true by simpa using hm]
    cases decide (r3.1.MinFresh < 0) <;> simp
   ·rw [show decide (r3.1.MaxAge < 0)=false by simpa using hm,show decide (0≤r3.1.MaxAge)=true by simp; omega]
    cases decide (old≤1000 * r3.1.MaxAge)
    ·simp
    ·cases decide (r3.1.MinFresh < 0) <;> simp
 ·rfl
theorem x1a {n:Int} (h:momP n=true):0≤n∧n≤345686399999:=by
 unfold momP at h
 simpa using h
theorem x8m (r:zz) (h:rqP r) (e1:uj r=some 0):momP r.At=true:=by
 obtain ⟨p1,p2,p3,p4,p5,p6⟩:=h
 obtain ⟨b,q,c1,c2,c3⟩:=y28 p2
 unfold uj Zb at e1
 rw [z5i] at e1
 simp only [Option.bind_some] at e1
 cases hm:momP r.At
 ·rw [hm] at e1; simp at e1
 ·rfl
theorem w33 (e:qr) (r:zz) (he:enP e) (hr:rqQ r):∃ f g d,z4w e=some f∧Zw r=some g∧z47 e r=some d ∧
  (if f≠0 then d=(0,f) else if g≠0 then d=(0,g) else z4x e r=some d):=by
 obtain ⟨f,f1,f2,f3⟩:=w3v e he
 obtain ⟨g,g1,g2,g3⟩:=y49 r hr.1.1
 unfold z47 y2o z4x
 rw [f1,g1]
 simp only [Option.bind_some]
 by_cases z1:f=0
 ·subst z1
  obtain ⟨a1,a2,a3,a4⟩:=f3 rfl
  simp only [ne_eq,not_true_eq_false,decide_false,Bool.false_eq_true,if_false,Option.bind_some]
  by_cases z2:g=0
  ·subst z2
   have hg:=(g3 rfl).1
   obtain ⟨q,q1,q2,q3⟩:=x01 r.Headers hg (z9q hr.1.2)
   obtain ⟨c,c1,c2,c3⟩:=x01 e.Response.Headers a2 (z9q he.2.1)
   simp only [not_true_eq_false,decide_false,Bool.false_eq_true,if_false]
   rw [q1,q2,c1,c2]
   simp only [Option.bind_some]
   by_cases k1:q.2=0
   ·have j1:decide (¬q.2=0)=false:=by simpa using k1
    simp only [j1,Bool.false_eq_true,if_false]
    by_cases k2:c.2=0
    ·have j2:decide (¬c.2=0)=false:=by simpa using k2
     simp only [j2,Bool.false_eq_true,if_false]
     by_cases k3:r.At < e.At
     ·have j3:decide (r.At < e.At)=true:=by simpa using k3
      simp only [j3,if_true]
      exact ⟨0,0,_,f2,g2,rfl,rfl⟩
     ·have j3:decide (r.At < e.At)=false:=by simpa using k3
      simp only [j3,Bool.false_eq_true,if_false]
      obtain ⟨x,x1,x2,x3⟩:=x09 e.Request he.1.1.1 he.1.2
      obtain ⟨y,y1,y2,y3⟩:=x09 r hr.1.1 hr.2
      obtain ⟨s1,s2⟩:=x6l e r he a2 a4 x2 y2 x3 y3
      have m1:=x1a (x8m r hr.1.1 g1)
      have m2:=x1a a3
      have hb:=x5b e
      obtain ⟨t1,t2⟩:=w48 e r.At a2 (z9q he.2.1) (by omega)
      have hq:=q3 k1
      have hc:=c3 k2
      obtain ⟨_,l2,_,_⟩:=y57 hc
      have d1:=w32 hq hc (r.At - e.At+1000 * agV e) (by omega)
      have d2:=w34 hq hc (r.At - e.At+1000 * agV e) (by omega) q c rfl rfl
      rw [x9l x1 y1,s1]
      simp only [Option.bind_some]
      by_cases kx:x.2=0
      ·have i1:¬ x.2≠0:=by simpa using kx
       rw [if_pos kx,if_neg i1,if_pos kx]
       by_cases ky:y.2=0
       ·have i2:¬ y.2≠0:=by simpa using ky
        have i3:decide (¬y.2=0)=false:=by simpa using ky
        rw [if_neg i2]
        simp only [i3,not_true_eq_false,decide_false,Bool.false_eq_true,if_false]
        rw [s2]
        simp only [Option.bind_some]
        cases suB (vyL (ptsB (qt vyN e.Response.Headers))) x.1 y.1
        ·exact ⟨0,0,_,f2,g2,rfl,rfl⟩
        ·simp only [Bool.not_true,Bool.false_eq_true,if_false]
         have t1':z45 (qr.mk e.Request e.Response e.At e.Tags e.Used) r.At=_:=t1
         have t2':z4y (qr.mk e.Request e.Response e.At e.Tags e.Used) r.At=_:=t2
         have l2':z4p (zy.mk c.1.NoStore c.1.NoCache c.1.Private c.1.Public c.1.Must c.1.Only c.1.MaxAge c.1.Shared c.1.Stale c.1.OnError c.1.MaxStale c.1.MinFresh)=_:=l2
         have d1':z44 (zy.mk q.1.NoStore q.1.NoCache q.1.Private q.1.Public q.1.Must q.1.Only q.1.MaxAge q.1.Shared q.1.Stale q.1.OnError q.1.MaxStale q.1.MinFresh) c.1 (r.At - e.At+1000 * agV e)=_:=d1
         rw [t1',t2',l2']
         simp only [Option.bind_some]
         rw [d1',d2]
         exact ⟨0,0,_,f2,g2,rfl,rfl⟩
       ·have i2:y.2≠0:=ky
        have i3:decide (¬y.2=0)=true:=by simpa using ky
        rw [if_pos i2]
        simp only [i3,if_true]
        exact ⟨0,0,_,f2,g2,rfl,rfl⟩
      ·have i3:decide (¬x.2=0)=true:=by simpa using kx
       rw [if_neg kx,if_pos kx,if_neg kx]
       simp only [i3,if_true]
       exact ⟨0,0,_,f2,g2,rfl,rfl⟩
    ·have j2:decide (¬c.2=0)=true:=by simpa using k2
     simp only [j2,if_true]
     exact ⟨0,0,_,f2,g2,rfl,rfl⟩
   ·have j1:decide (¬q.2=0)=true:=by simpa using k1
    simp only [j1,if_true]
    exact ⟨0,0,_,f2,g2,rfl,rfl⟩
  ·have j:decide (¬g=0)=true:=by simpa using z2
   simp only [j,if_true]
   exact ⟨0,g,_,f2,g2,rfl,by rw [if_neg (by simp),if_pos z2]⟩
 ·have j:decide (f≠0)=true:=by simpa using z1
  simp only [j,if_true,Option.bind_some]
  exact ⟨f,g,_,f2,g2,rfl,by rw [if_pos z1]⟩
theorem delH (l:List zn) (h:l.length≤1000):y2g l (fun (a0:zn)=>z8x a0)=some (l.filter fun x => !decide (x.Name=[99,97,99,104,101,45,99,111,110,116,114,111,108])):=
 y7b (zn.mk [] []) l (fun x=>decide (x.Name=[99,97,99,104,101,45,99,111,110,116,114,111,108])) (by omega) fun x _=>rfl
theorem w3x (L:List Int):y2n L=some true:=by
 refine x07 ?_
 unfold y2n
 refine yg (w3w (k:=0) ⟨by simp,by simp⟩ (by omega)) fun r2 h2 => ?_
 obtain ⟨he,hs⟩:=h2
 have hJ3:∀ r:zz,rqQ r→Ok (z2s r2 r.Method r.Host r.Path r.Query r.From r.Headers r.Body r.At) (· = true):=by
  intro r hr
  obtain ⟨f,g,d,f2,g2,d1,d2⟩:=w33 r2.1 r he hr
  unfold z2s
  have d1':z47 r2.1 (zz.mk r.At r.Method r.Host r.Path r.Query r.From r.Headers r.Body)=_:=d1
  have g2':Zw (zz.mk r.At r.Method r.Host r.Path r.Query r.From r.Headers r.Body)=_:=g2
  rw [d1',f2,g2']
  simp only [Option.bind_some]
  rw [w3s]
  simp only [Option.bind_some]
  have hJ4:∀ a b:Int,d=(b,a)→Ok (z2r d a b) (· = true):=by
   rintro a b rfl
   unfold z2r z2q
   simp only [decide_true,if_true]
   rw [w0i]
   exact yw rfl
  by_cases z1:f=0
  ·rw [if_neg (show ¬ f≠0 by simpa using z1)] at d2 ⊢
   by_cases z2:g=0
   ·rw [if_neg (show ¬ g≠0 by simpa using z2)] at d2
    rw [if_pos (by simpa using z2)]
    have d2':z4x r2.1 (zz.mk r.At r.Method r.Host r.Path r.Query r.From r.Headers r.Body)=_:=d2
    rw [d2']
    exact hJ4 _ _ rfl
   ·rw [if_pos z2] at d2
    rw [if_neg (by simpa using z2)]
    exact hJ4 _ _ d2
  ·rw [if_pos z1] at d2 ⊢
   rw [if_neg (by simpa using z1)]
   exact hJ4 _ _ d2
 refine yg (Q:=fun (r:Int×zt)=>SB 700 r.2) ?_ fun r4 h4 => ?_
 ·unfold y2m
  exact yg (y1r hs (by omega) _ ⟨by simp,by simp⟩) fun r3 h3=>yw (h3.2.mono (by omega))
 refine yg (x4v h4 (by omega) r4.1) fun r6 h6 => ?_
 have hJ1:∀ (r:zz) (c31:List Int) (c32:Int),rqQ r→SB 1500 (zt.mk c31 c32)→Ok (z2t r2 r6 r.Method r.Host r.Path r.Query r.From r.Headers r.Body c31 c32) (· = true):=by
  intro r c31 c32 hr hs
  unfold z2t
  refine yg (jb hs (by omega) 20 (by omega)) fun r33 h33=>qz (fun _ => ?_) (fun _=>hJ3 (zz.mk r6.1.At r.Method r.Host r.Path r.Query r.From r.Headers r.Body) hr)
  exact yg (y1x h33 (by omega) 0 1000 (by omega)) fun r36 h36=>hJ3 (zz.mk r36.1 r.Method r.Host r.Path r.Query r.From r.Headers r.Body) hr
 refine yg (jb h6.2 (by omega) 2 (by omega)) fun r8 h8=>qz (fun _ => ?_) (fun _=>hJ1 r6.1 _ _ (x8f h6.1) (h8.mono (by omega)))
 obtain ⟨⟨⟨q1,q2,q3,q4,q5,q6⟩,qA⟩,qq⟩:=he.1
 have hcl:uz r2.1.Request.Headers=some r2.1.Request.Headers:=by
  unfold uz
  rw [if_pos (by have:=qA.1; omega)]
 rw [hcl]
 simp only [Option.bind_some]
 rw [delH _ (by have:=qA.1; omega)]
 simp only [Option.bind_some]
 have hF:haP 100 (r2.1.Request.Headers.filter fun x => !decide (x.Name=[99,97,99,104,101,45,99,111,110,116,114,111,108])):=
  ⟨Nat.le_trans (List.length_filter_le _ _) qA.1,fun y hy=>qA.2 y (List.mem_filter.1 hy).1⟩
 generalize (r2.1.Request.Headers.filter fun x => !decide (x.Name=[99,97,99,104,101,45,99,111,110,116,114,111,108]))=l at hF ⊢
 have hJ2:∀ (l:List zn) (c:List Int) (a:Int),haP 101 l→SB 1500 (zt.mk c a)→Ok (z6m r2 r6 l c a) (· = true):=by
  intro l c a hl hs
  exact hJ1 (zz.mk 0 r2.1.Request.Method r2.1.Request.Host r2.1.Request.Path r2.1.Request.Query r2.1.Request.From l r2.1.Request.Body) c a ⟨⟨⟨q1,q2,q3,q4,q5,y62 hl (by omega)⟩,hl⟩,qq⟩ hs
 refine yg (jb h8 (by omega) 3 (by omega)) fun r15 h15=>qz (fun _ => ?_) (fun _=>hJ2 _ _ _ (jf hF (by omega)) (h15.mono (by omega)))
 exact yg (x42 h15 (by omega)) fun r18 h18=>ok_g (by have:=hF.1; omega) (hJ2 _ _ _ (z5s hF _ _ ⟨rfl,by simp⟩ h18.1) (h18.2.mono (by omega)))
end Go.Proofs.YtmdllhcjefcggabGreatDoor
