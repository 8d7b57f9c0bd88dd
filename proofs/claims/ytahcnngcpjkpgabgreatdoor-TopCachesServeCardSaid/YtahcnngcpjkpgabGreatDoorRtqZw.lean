/- Plain: a response that is written is read again. -/
import Derived.Test.YtahcnngcpjkpgabGreatDoorCqZw
import Derived.Test.YtahcnngcpjkpgabGreatDoorRtpZw
namespace Go.Proofs.YtahcnngcpjkpgabGreatDoor
set_option linter.unusedVariables false
set_option maxRecDepth 20000
theorem x9c {α:Type} {p:Nat→α→Bool}:∀ (l:List α) (k:Nat),allI p k l=true↔∀ j x,l[j]?=some x→p (k+j) x=true
 | [],k=>by simp [allI]
 | x::l,k=>by
  simp only [allI,Bool.and_eq_true,x9c l (k+1)]
  constructor
  ·rintro ⟨h1,h2⟩ j y hj
   cases j with
   | zero=>simp at hj; subst hj; exact h1
   | succ j=>have:=h2 j y (by simpa using hj); rwa [show k+1+j=k+(j+1) by omega] at this
  ·intro h
   refine ⟨h 0 x rfl,fun j y hj => ?_⟩
   have:=h (j+1) y (by simpa using hj)
   rwa [show k+(j+1)=k+1+j by omega] at this
theorem eqY (a b:List Bs) (h:a.length≤1000000000):z5g a b=some (decide (a=b)):=by
 unfold z5g
 by_cases hl:a.length=b.length
 ·rw [if_neg (by simp [hl]),if_pos h,z03 (p:=fun k x=>decide (b[k]?=some x)) (e:=true) (r0:=false) rfl a 0 fun j x _ hx => ?_]
  ·have:allI (fun k x=>decide (b[k]?=some x)) 0 a=decide (a=b):=by
    rw [Bool.eq_iff_iff,x9c]
    simp only [Nat.zero_add,decide_eq_true_eq]
    constructor
    ·intro h
     apply List.ext_getElem?
     intro j
     cases hj:a[j]? with
     | some x=>rw [h j x hj]
     | none=>rw [List.getElem?_eq_none_iff] at hj; rw [eq_comm,List.getElem?_eq_none_iff]; omega
    ·rintro rfl j x hj; exact hj
   rw [this]
   cases decide (a=b) <;> rfl
  ·have hx:a[j]?=some x:=by simpa using hx
   have hj:=z56 hx
   obtain ⟨y,hy⟩:∃ y,b[j]?=some y:=⟨_,List.getElem?_eq_getElem (by omega)⟩
   unfold y13
   rw [hy]
   simp only [Option.bind_some]
   by_cases hxy:x=y
   ·simp [hxy]
   ·have:¬ y=x:=fun e=>hxy e.symm
    simp [hxy,this]
 ·have:¬ a=b:=fun e=>hl (by rw [e])
  rw [if_pos (by simp; omega)]
  simp [this]
def vyN:Bs:=[118,97,114,121]
def vyL (P:List Bs):List Bs×Bool×Int:=if P.all tokB then (if P.any (fun x=>decide (x=[42])) then ([],true,0) else if 10 < ((setB (P.map lo)).length:Int) then ([],false,2) else (setB (P.map lo),false,0)) else ([],false,9)
theorem x5j {x:Bs} (h:tokB x=true):jv x=some (lo x):=y8p ⟨Zl h,by have:=Ye h; omega⟩
theorem w5a (x:Bs):decide (([42]:Bs)=lo x)=decide (x=[42]):=by
 rw [decide_eq_decide]
 constructor
 ·intro h
  unfold lo Lib.toLowerA at h
  cases x with
  | nil=>simp at h
  | cons c t =>
   simp only [List.map_cons,List.cons.injEq] at h
   obtain ⟨h1,h2⟩:=h
   have:=jg (fun c => !(Lib.lowerB c == 42) || c == 42) (by decide +kernel) c
   rw [← h1] at this
   have h3:c=42:=by simpa using this
   have h4:t=[]:=by simpa using h2.symm
   rw [h3,h4]
 ·rintro rfl; decide +kernel
theorem vyP:∀ (l pre:List Bs),(∀ x,x∈l→x.length≤2000)→rng (fun (k:Nat) (s:(List Bs))=>z3u k s) (fun (s:(List Bs))=>z06 s) l.length pre.length (pre++l)=if l.all tokB then z06 (pre++l.map lo) else some ([],false,9)
 | [],pre,_=>by simp [rng]
 | x::l,pre,h=>by
  have e1:(pre++x::l)[pre.length]?=some x:=by simp
  have e3:pre.length+1=(pre++[lo x]).length:=by simp
  have hst:z3u pre.length (pre++x::l)=if tokB x then some (.inl ((pre++[lo x])++l)) else some (.inr ([],false,9)):=by
   have e2:(pre++x::l).set pre.length (lo x)=(pre++[lo x])++l:=by simp
   unfold z3u
   rw [e1]
   simp only [Option.bind_some]
   rw [Yq x (by have:=h x (by simp); omega)]
   simp only [Option.bind_some]
   cases ht:tokB x
   ·rfl
   ·rw [if_neg (by simp),x5j ht]
    simp only [Option.bind_some]
    rw [e2]; rfl
  show (z3u pre.length (pre++x::l)).bind _=_
  rw [hst]
  cases ht:tokB x
  ·simp [ht,after]
  ·simp only [if_true,Option.bind_some,after]
   rw [e3,vyP l (pre++[lo x]) fun y hy=>h y (List.mem_cons_of_mem _ hy)]
   simp [ht]
theorem vyR:∀ (l:List Bs) (k:Nat) (b:Bool) (q:List Bs),(∀ x,x∈l→x.length≤2000)→q.length+l.length≤10000000→forL (fun (k:Nat) (x:Bs) (s:Bool×(List Bs))=>y0i k x s.1 s.2) (fun (s:Bool×(List Bs))=>y4e s.1 s.2) k l (b,q)=if l.all tokB then y4e (b || l.any fun x=>decide (x=[42])) (q++l.map lo) else some ([],false,9)
 | [],k,b,q,_,_=>by simp [forL]
 | x::l,k,b,q,h,hq=>by
  simp only [List.length_cons] at hq
  have hst:y0i k x b q=if tokB x then some (.inl (b || decide (x=[42]),q++[lo x])) else some (.inr ([],false,9)):=by
   unfold y0i
   rw [z71 x (by have:=h x (by simp); omega)]
   simp only [Option.bind_some]
   cases ht:tokB x
   ·rfl
   ·rw [if_neg (by simp),x5j ht]
    simp only [Option.bind_some]
    rw [if_pos (by omega)]; rfl
  show (y0i k x b q).bind _=_
  rw [hst]
  cases ht:tokB x
  ·simp [ht,after]
  ·simp only [if_true,Option.bind_some,after]
   rw [vyR l (k+1) (b || decide (x=[42])) (q++[lo x]) (fun y hy=>h y (List.mem_cons_of_mem _ hy)) (by simp; omega)]
   simp [ht,Bool.or_assoc]
theorem y1y (l:List Bs) (h:l.length≤10000000) {β:Type} (f:List Bs→Option β):((Zt l).bind fun r=>(z0i r).bind fun r2=>f r2)=f (setB l):=by
 unfold Zt z0i
 rw [if_pos (by omega)]
 simp only [Option.bind_some]
 rw [if_pos (by simp; omega)]
 rfl
theorem x86:∀ l:List Bs,(l.map lo).any (fun x=>decide (([42]:Bs)=x))=l.any fun x=>decide (x=[42])
 | []=>rfl
 | x::l=>by rw [List.map_cons,List.any_cons,List.any_cons,w5a,x86 l]
theorem x1a (a:yb) (h0:hdsE a.Headers=0) (h2:∀ x,x∈a.Headers→nmOK x):xk a=some (vyL (ptsB (yo vyN a.Headers)))∧x5d a=some (vyL (ptsB (yo vyN a.Headers))):=by
 have hl:=xl h0
 have hv:=ki a.Headers vyN (by omega) h2 ⟨rfl,by decide⟩
 have hV:=z7i h0 vyN
 have hp1:=z4m _ hV
 have hp2:=x4k _ hV
 have hpl:=y2h _ hV
 have hm:∀ x,x∈ptsB (yo vyN a.Headers)→x.length≤2000:=fun x hx=>by
  obtain ⟨v,hv1,hv2,_⟩:=y2g hx
  have:=hV.2 v hv1
  omega
 unfold xk x5d
 show (ve a.Headers vyN).bind _=_∧(Ze a.Headers vyN).bind _=_
 rw [hv.1,hv.2]
 simp only [Option.bind_some]
 rw [hp1,hp2]
 simp only [Option.bind_some]
 generalize ptsB (yo vyN a.Headers)=P at *
 rw [if_pos (by omega),if_pos (by omega)]
 have a1:=vyP P [] hm
 have a2:=vyR P 0 false [] hm (by simp; omega)
 simp only [List.length_nil,List.nil_append,Bool.false_or] at a1 a2
 rw [a1,a2]
 unfold vyL
 cases P.all tokB
 ·simp
 ·simp only [if_true]
  have hi:=z3a (P.map lo) [42] (by simp; omega)
  have hk:Qt (P.map lo)=some (setB (P.map lo)):=by
   unfold Qt jj
   rw [if_pos (by simp; omega)]
   simp only [Option.bind_some]
   exact y1y (P.map lo) (by simp; omega) fun r=>some r
  unfold z06 y4e Qq
  rw [hi,hk]
  simp only [Option.bind_some]
  have hd:decide (0≤idxB (P.map lo) [42])=P.any fun x=>decide (x=[42]):=by
   unfold idxB
   rw [y99,x86]
  rw [hd]
  cases P.any fun x=>decide (x=[42])
  ·simp only [Bool.false_eq_true,if_false]
   rw [y1y (P.map lo) (by simp; omega) fun r15=>if decide (10 < (r15.length:Int)) then (some ([],false,2)) else (some (r15,false,0))]
   by_cases h10:10 < ((setB (P.map lo)).length:Int)
   ·rw [if_pos (by simpa using h10),if_pos h10]; exact ⟨rfl,rfl⟩
   ·rw [if_neg (by simpa using h10),if_neg h10]; exact ⟨rfl,rfl⟩
  ·exact ⟨rfl,rfl⟩
theorem x9w {P:List Bs} {n:Bs} (h:n∈(vyL P).1):ascB n=true∧n.length≤100000:=by
 unfold vyL at h
 by_cases hP:P.all tokB=true
 ·rw [if_pos hP] at h
  have key:n∈setB (P.map lo):=by
   split at h
   ·simp at h
   ·split at h
    ·simp at h
    ·exact h
  rw [w3c] at key
  obtain ⟨x,hx,rfl⟩:=List.mem_map.1 key
  have ht:=List.all_eq_true.1 hP x hx
  have:=Ye ht
  exact ⟨x85 (Zl ht),by unfold lo Lib.toLowerA; rw [List.length_map]; omega⟩
 ·rw [if_neg hP] at h; simp at h
theorem x9x {P:List Bs}:(vyL P).1.length≤10:=by
 unfold vyL
 split
 ·split
  ·simp
  ·split
   ·simp
   ·show (setB (P.map lo)).length≤10
    omega
 ·simp
def suB (V:List Bs×Bool×Int) (a b:zw):Bool:=
 if (decide (a.Host≠b.Host) || decide (a.Path≠b.Path) || decide (a.Query≠b.Query)) || (decide (a.Method≠b.Method) && !(decide (a.Method=[71,69,84]) && decide (b.Method=[72,69,65,68]))) then false
 else if V.2.1 then false else !(V.1.any fun n => !decide (yo n a.Headers=yo n b.Headers))
theorem x79 {a b:zw} (ha:hnP a.Headers) (hb:hnP b.Headers) (n:Bs) (hn:ascB n=true∧n.length≤100000) :
  z2u n a b=some (!decide (yo n a.Headers=yo n b.Headers))∧y3b n a b=some (!decide (yo n a.Headers=yo n b.Headers)):=by
 have h1:=ki a.Headers n ha.1 ha.2 hn
 have h2:=ki b.Headers n hb.1 hb.2 hn
 have hl:(yo n a.Headers).length≤1000:=by unfold yo; rw [List.length_map]; have:=List.length_filter_le (nmB n) a.Headers; have:=ha.1; omega
 unfold z2u y3b
 rw [h1.1,h1.2,h2.1,h2.2]
 simp only [Option.bind_some]
 rw [eqY _ _ (by omega)]
 exact ⟨rfl,rfl⟩
theorem w1j {a b:zw} (ha:hnP a.Headers) (hb:hnP b.Headers) (r:yb) (V:List Bs×Bool×Int) (h1:xk r=some V) (h0:V.2.2=0) (hV:V.1.length≤10∧∀ n,n∈V.1→ascB n=true∧n.length≤100000) :
  z0u a r b=some (suB V a b)∧(if ((((V.2.1 || (decide (a.Host≠b.Host))) || (decide (a.Path≠b.Path))) || (decide (a.Query≠b.Query))) || ((decide (a.Method≠b.Method)) && ((decide (a.Method≠[71,69,84])) || (decide (b.Method≠[72,69,65,68]))))) then (some (false,(0:Int))) else ((z5j V.1 (fun (a0:Bs)=>y3b a0 a b)).bind fun (r12:(Bool))=>some (!r12,(0:Int))))=some (suB V a b,0):=by
 have c1:z5j V.1 (fun (a0:Bs)=>z2u a0 a b)=some (V.1.any fun n => !decide (yo n a.Headers=yo n b.Headers)):=
  y4q V.1 (fun n => !decide (yo n a.Headers=yo n b.Headers)) (by omega) fun n hn=>(x79 ha hb n (hV.2 n hn)).1
 have c2:z5j V.1 (fun (a0:Bs)=>y3b a0 a b)=some (V.1.any fun n => !decide (yo n a.Headers=yo n b.Headers)):=
  y4q V.1 (fun n => !decide (yo n a.Headers=yo n b.Headers)) (by omega) fun n hn=>(x79 ha hb n (hV.2 n hn)).2
 unfold z0u suB
 rw [h1,c2]
 simp only [Option.bind_some]
 rw [c1]
 simp only [Option.bind_some,h0]
 generalize (V.1.any fun n => !decide (yo n a.Headers=yo n b.Headers))=z
 generalize V.2.1=y
 have e1:(decide (a.Method≠[71,69,84]) || decide (b.Method≠[72,69,65,68])) = !(decide (a.Method=[71,69,84]) && decide (b.Method=[72,69,65,68])):=by
  simp only [ne_eq,decide_not,Bool.not_and]
 rw [e1]
 generalize decide (a.Host≠b.Host)=x1
 generalize decide (a.Path≠b.Path)=x2
 generalize decide (a.Query≠b.Query)=x3
 generalize (decide (a.Method≠b.Method) && !(decide (a.Method=[71,69,84]) && decide (b.Method=[72,69,65,68])))=x4
 cases x1 <;> cases x2 <;> cases x3 <;> cases x4 <;> cases y <;> cases z <;> exact ⟨rfl,rfl⟩
def agN:Bs:=[97,103,101]
def agV (e:uj):Int:=match (yo agN e.Response.Headers)[0]? with | some x=>if sOK x then nOf x else 0 | none=>0
theorem y66 {x:Bs} (h:sOK x=true):0≤nOf x∧nOf x≤100000000:=by
 unfold sOK outP at h
 unfold nOf
 simp only [Bool.and_eq_true,Bool.not_eq_true',Bool.or_eq_false_iff,decide_eq_false_iff_not] at h
 rw [if_pos h.1]; omega
theorem x0u (e:uj):0≤agV e∧agV e≤100000000:=by
 unfold agV
 split
 ·split
  ·rename_i h; exact y66 h
  ·omega
 ·omega
theorem x9d (e:uj) (at_:Int) (h0:hdsE e.Response.Headers=0) (h2:∀ x,x∈e.Response.Headers→nmOK x) (ht:-1000000000000000≤at_ - e.At∧at_ - e.At≤1000000000000000) :
  z55 e at_=some (at_ - e.At+1000 * agV e)∧x5h e at_=some (at_ - e.At+1000 * agV e):=by
 have hl:=xl h0
 have hv:=ki e.Response.Headers agN (by omega) h2 ⟨rfl,by decide⟩
 have hV:=z7i h0 agN
 have hb:=x0u e
 have hJ:∀ n:Int,0≤n→n≤100000000→z09 e at_ n=some (at_ - e.At+1000 * n)∧y0r e at_ n=some (at_ - e.At+1000 * n):=fun n h1 h3=>by
  unfold z09 y0r
  rw [qc (n:=at_ - e.At) (by omega),qc (n:=n * 1000) (by omega),qc (n:=1000 * n) (by omega),qc (by omega),qc (by omega),Int.mul_comm n 1000]
  exact ⟨rfl,rfl⟩
 unfold z55 x5h
 show (ve e.Response.Headers agN).bind _=_∧(Ze e.Response.Headers agN).bind _=_
 rw [hv.1,hv.2]
 simp only [Option.bind_some]
 unfold agV at hb ⊢
 cases hx:yo agN e.Response.Headers with
 | nil =>
  obtain ⟨j1,j2⟩:=hJ 0 (by omega) (by omega)
  simp [j1,j2]
 | cons x l =>
  have hxl:x.length≤2000:=hV.2 x (by rw [hx]; simp)
  obtain ⟨w,w1,w2,w3⟩:=x4b x 9 (by omega) (by omega)
  have w1':z0s x 9=some (w,okN 9 x):=w1
  rw [hx] at hb
  simp only [List.length_cons,List.getElem?_cons_zero,Option.bind_some] at hb ⊢
  have hpos:decide (0 < ((l.length+1:Nat):Int))=true:=by simp
  rw [if_pos hpos,if_pos hpos,x3q x (by omega),w1']
  simp only [Option.bind_some]
  rw [z99]
  simp only [Option.bind_some]
  unfold y9v
  cases hs:sOK x
  ·obtain ⟨j1,j2⟩:=hJ 0 (by omega) (by omega)
   simp only [Bool.false_eq_true,if_false]
   refine ⟨j1,?_⟩
   unfold sOK at hs
   cases ho:okN 9 x
   ·simp only [Bool.false_eq_true,if_false]; exact j2
   ·rw [ho,Bool.true_and] at hs
    rw [w2 ho,hs]
    simp only [if_true,Bool.false_eq_true,if_false]; exact j2
  ·have hb2:=y66 hs
   obtain ⟨j1,j2⟩:=hJ (nOf x) hb2.1 hb2.2
   simp only [if_true]
   refine ⟨j1,?_⟩
   unfold sOK at hs
   simp only [Bool.and_eq_true] at hs
   have hw:w=nOf x:=by unfold nOf; rw [if_pos hs.1]; exact w2 hs.1
   rw [hs.1]
   simp only [if_true]
   rw [w2 hs.1,hs.2,← w2 hs.1]
   simp only [if_true]
   rw [hw]; exact j2
theorem w85 {n:Nat} {l:List zg} (h:haP n l):∀ x,x∈l→nmOK x:=fun x hx=>(h.2 x hx).2
theorem w30 (r:yb) (h:hdsP r.Headers):∃ e,kl r=some e∧y8a r=some e∧(e=0→hdsE r.Headers=0):=by
 obtain ⟨e,e1,e2⟩:=w3z r h
 refine ⟨e,e1,e2,fun h0 => ?_⟩
 subst h0
 have hh:=Qz r.Headers h
 unfold kl at e1
 rw [z4n,hh.1] at e1
 simp only [Option.bind_some] at e1
 by_cases h0:hdsE r.Headers=0
 ·exact h0
 ·split at e1
  ·simp at e1
  ·rw [if_pos (by simpa using h0)] at e1
   exact absurd (Option.some.inj e1) h0
def rqS (r:zw):Prop:=rqA r∧qOK r.Query
def nB (n:Int):Prop:=-1≤n∧n≤100000000
def cB (c:yh):Prop:=nB c.MaxAge∧nB c.Shared∧nB c.Stale∧nB c.OnError∧nB c.MaxStale∧nB c.MinFresh
theorem v09 {c:yh} (h:cB c) (y:Int) (b:Bool):cB (um c y b):=by
 unfold um
 (repeat' split) <;> exact h
theorem v08 {c:yh} (h:cB c) (y n:Int) (hn:nB n):cB (xw c y n):=by
 obtain ⟨h1,h2,h3,h4,h5,h6⟩:=id h
 unfold xw
 (repeat' split) <;> first | exact ⟨hn,h2,h3,h4,h5,h6⟩ | exact ⟨h1,hn,h3,h4,h5,h6⟩ | exact ⟨h1,h2,hn,h4,h5,h6⟩ | exact ⟨h1,h2,h3,hn,h5,h6⟩ | exact ⟨h1,h2,h3,h4,hn,h6⟩ | exact ⟨h1,h2,h3,h4,h5,hn⟩ | exact h
theorem w07 {c:yh} {x:Bs} (h:cB c) (ht:(kj c x).1=true):cB (kj c x).2:=by
 have hd:kj c x=(let r:=Lib.cut x [61]
  if !tokB r.1 || (r.2.2 && !sOK r.2.1) then (false,c)
  else if 0≤idxB flN (lo r.1) then (!r.2.2,um c (idxB flN (lo r.1)) true)
  else if idxB cnN (lo r.1) < 0 then (true,c)
  else (r.2.2,numC c (idxB cnN (lo r.1)) (nOf r.2.1))):=rfl
 rw [hd] at ht ⊢
 simp only at ht ⊢
 generalize Lib.cut x [61]=r at *
 by_cases h1:(!tokB r.1 || (r.2.2 && !sOK r.2.1))=true
 ·rw [if_pos h1] at ht; cases ht
 ·rw [if_neg h1] at ht ⊢
  by_cases h2:0≤idxB flN (lo r.1)
  ·rw [if_pos h2]; exact v09 h _ _
  ·rw [if_neg h2] at ht ⊢
   by_cases h3:idxB cnN (lo r.1) < 0
   ·rw [if_pos h3]; exact h
   ·rw [if_neg h3] at ht ⊢
    have h4:r.2.2=true:=ht
    rw [h4] at h1
    have h5:sOK r.2.1=true:=by
     cases hs:sOK r.2.1
     ·rw [hs] at h1; simp at h1
     ·rfl
    have hb:=y66 h5
    show cB (numC c _ (nOf r.2.1))
    unfold numC
    split
    ·exact v08 h _ _ ⟨by omega,hb.2⟩
    ·exact h
theorem v1b:cB (tc c0):=by unfold cB nB; decide
theorem w4t (l:List zg) (h0:hdsE l=0) (h2:∀ x,x∈l→nmOK x):Ok (km l) fun r=>y8d l=some r∧(r.2=0→cB r.1):=by
 have hcnt:=xl h0
 obtain ⟨r,r1,r2⟩:=w4s l h0 (by omega) h2
 have hv:=ki l ccL (by omega) h2 ⟨rfl,by decide⟩
 have hV:=z7i h0 ccL
 have hp1:=z4m _ hV
 have hpl:=y2h _ hV
 have key:Ok (km l) fun r=>r.2=0→cB r.1:=by
  rw [y2l]
  unfold z08
  show Ok ((ve l ccL).bind _) _
  rw [hv.1]
  simp only [Option.bind_some]
  rw [hp1]
  simp only [Option.bind_some]
  refine ok_g (by omega) ?_
  refine z4p (fun _ (s:Tst)=>cB (tc s)) (ptsB (yo ccL l)) 0 c0 v1b (fun j x s _ hx hs => ?_) (fun s hs => ?_)
  ·obtain ⟨v,hv1,hv2,_⟩:=y2g (List.mem_of_getElem? hx)
   have hvl:=hV.2 v hv1
   have a:=y2m j x (tc s) (by omega)
   refine ⟨stT (tc s) x,a,?_⟩
   unfold stT
   cases ht:(kj (tc s) x).1
   ·exact fun h=>by cases h
   ·exact w07 hs ht
  ·exact yv fun _=>hs
 obtain ⟨q,q1,q2⟩:=key
 rw [r1] at q1
 cases q1
 exact ⟨r,r1,r2,q2⟩
def ltV (c:yh):Int:=if c.NoCache then 0 else if 0≤c.Shared then 1000 * c.Shared else max 0 (1000 * c.MaxAge)
theorem x5i {c:yh} (h:cB c):Yp c=some (ltV c)∧x47 c=some (ltV c)∧0≤ltV c∧ltV c≤100000000000:=by
 obtain ⟨h1,h2,_⟩:=h
 unfold nB at h1 h2
 unfold Yp x47 ltV
 rw [qc (n:=c.Shared * 1000) (by omega),qc (n:=c.MaxAge * 1000) (by omega),qc (n:=1000 * c.Shared) (by omega),qc (n:=1000 * c.MaxAge) (by omega)]
 cases c.NoCache
 ·simp only [Bool.false_eq_true,if_false]
  by_cases hs:0≤c.Shared
  ·rw [if_pos (show decide (c.Shared≠-1)=true by simp; omega),if_pos (show decide (0≤c.Shared)=true by simpa using hs),if_pos hs,Int.mul_comm c.Shared 1000]
   exact ⟨rfl,rfl,by omega,by omega⟩
  ·rw [if_neg (show ¬ decide (c.Shared≠-1)=true by simp; omega),if_neg (show ¬ decide (0≤c.Shared)=true by simpa using hs),if_neg hs]
   by_cases ha:0≤c.MaxAge
   ·rw [if_pos (show decide (c.MaxAge≠-1)=true by simp; omega),Int.mul_comm c.MaxAge 1000]
    exact ⟨by congr 1; omega,rfl,by omega,by omega⟩
   ·rw [if_neg (show ¬ decide (c.MaxAge≠-1)=true by simp; omega)]
    exact ⟨by congr 1; omega,rfl,by omega,by omega⟩
 ·exact ⟨rfl,rfl,by simp,by simp⟩
def tlV (q c:yh) (over:Int) (b:Bool):Int:=
 if b then 1 else if decide (over < 0) || c.Must then 3 else if decide (0≤q.MaxStale) && decide (over≤1000 * q.MaxStale) then 1 else if (decide (0≤c.Stale) && decide (over < 1000 * c.Stale)) && decide (q.MaxAge < 0) then 2 else 3
def dcV (q c:yh) (old:Int):Int:=
 if c.NoCache || q.NoCache then 3 else tlV q c (old - ltV c) (decide (old - ltV c < 0) && (decide (q.MaxAge < 0) || decide (old≤1000 * q.MaxAge)) && (decide (q.MinFresh < 0) || decide (old - ltV c≤-1000 * q.MinFresh)))
theorem v0i {q c:yh} (hq:cB q) (hc:cB c) (old:Int) (ho:-1000000000000000≤old∧old≤1000000000000000):z52 q c old=some (dcV q c old):=by
 obtain ⟨l1,_,l3,l4⟩:=x5i hc
 obtain ⟨q1,q2,q3,q4,q5,q6⟩:=hq
 obtain ⟨c1,c2,c3,c4,c5,c6⟩:=hc
 unfold nB at *
 have ew:wr (old - ltV c)=old - ltV c:=qc (by omega)
 have hJ:∀ b,We q c old (ltV c) b=some (tlV q c (old - ltV c) b):=fun b=>by
  unfold We tlV
  rw [ew,qc (n:=q.MaxStale * 1000) (by omega),qc (n:=c.Stale * 1000) (by omega),Int.mul_comm q.MaxStale 1000,Int.mul_comm c.Stale 1000]
  have e1:decide (q.MaxStale≠-1)=decide (0≤q.MaxStale):=decide_eq_decide.2 (by omega)
  have e2:decide (c.Stale≠-1)=decide (0≤c.Stale):=decide_eq_decide.2 (by omega)
  have e3:decide (q.MaxAge=-1)=decide (q.MaxAge < 0):=decide_eq_decide.2 (by omega)
  rw [e1,e2,e3]
  cases b
  ·simp only [Bool.false_eq_true,if_false]
   split
   ·rfl
   ·split
    ·rfl
    ·split <;> rfl
  ·rfl
 unfold z52 y3l dcV
 rw [l1]
 simp only [Option.bind_some]
 rw [ew,qc (n:=q.MaxAge * 1000) (by omega),qc (n:=(-q.MinFresh) * 1000) (by omega),hJ,hJ,hJ]
 have e1:decide (q.MaxAge=-1)=decide (q.MaxAge < 0):=decide_eq_decide.2 (by omega)
 have e2:decide (q.MinFresh=-1)=decide (q.MinFresh < 0):=decide_eq_decide.2 (by omega)
 have e3:(-q.MinFresh) * 1000=-1000 * q.MinFresh:=by omega
 rw [e1,e2,e3,Int.mul_comm q.MaxAge 1000,Bool.or_comm q.NoCache c.NoCache,if_pos (show -9223372036854775807≤q.MinFresh∧q.MinFresh≤9223372036854775807 by omega)]
 cases (c.NoCache || q.NoCache)
 ·simp only [Bool.false_eq_true,if_false]
  cases decide (old - ltV c < 0)
  ·simp
  ·cases (decide (q.MaxAge < 0) || decide (old≤1000 * q.MaxAge))
   ·simp
   ·cases decide (q.MinFresh < 0) <;> simp
 ·rfl
def uOK (a b:UInt8):Prop:=pcU (h2 a b)=[37,a,b]∧frU (h2 a b)=false∧(isH a && isH b)=true
inductive Nb:Bs→Prop
 | nil:Nb []
 | cons (c:UInt8) (r:Bs):c≠37→Nb r→Nb (c::r)
 | unit (a b:UInt8) (r:Bs):uOK a b→Nb r→Nb (37::a::b::r)
section
variable {α:Type} {p:α→α→Option Int}
def adjS (p:α→α→Option Int):List α→Prop
 | x::y::l=>(∃ c,p y x=some c∧¬ c < 0)∧adjS p (y::l)
 | _=>True
theorem x9i:∀ (A:List α) (y x:α) (B:List α),adjS p (A++[y])→adjS p (x::B)→(∃ c,p x y=some c∧¬ c < 0)→adjS p (A++y::x::B)
 | [],y,x,B,_,h2,h3=>⟨h3,h2⟩
 | [a],y,x,B,h1,h2,h3=>⟨h1.1,h3,h2⟩
 | a::b::A,y,x,B,h1,h2,h3=>⟨h1.1,x9i (b::A) y x B h1.2 h2 h3⟩
theorem x9f:∀ (A B:List α),adjS p (A++B)→adjS p A
 | [],B,_=>trivial
 | [a],B,_=>trivial
 | a::b::A,B,h=>⟨h.1,x9f (b::A) B h.2⟩
theorem x9e:∀ (A B:List α),adjS p (A++B)→adjS p B
 | [],B,h=>h
 | [a],[],_=>trivial
 | [a],b::B,h=>h.2
 | a::b::A,B,h=>x9e (b::A) B h.2
theorem x9h:∀ (A:List α) (y x:α) (B:List α),adjS p (A++y::x::B)→∃ c,p x y=some c∧¬ c < 0
 | [],y,x,B,h=>h.1
 | [a],y,x,B,h=>h.2.1
 | a::b::A,y,x,B,h=>x9h (b::A) y x B h.2
def taP (p:α→α→Option Int):Prop:=(∀ u v,∃ c,p u v=some c)∧∀ u v c d,p u v=some c→p v u=some d→c < 0→¬ d < 0
theorem x9g (ta:taP p) (x:α) (B:List α) (hB:adjS p B) (h:∀ b B0,B=b::B0→∃ c,p x b=some c∧c < 0):adjS p (x::B):=by
 cases B with
 | nil=>trivial
 | cons b B0 =>
  obtain ⟨c,h1,h2⟩:=h b B0 rfl
  obtain ⟨d,h3⟩:=ta.1 b x
  exact ⟨⟨d,h3,ta.2 x b c d h1 h3 h2⟩,hB⟩
theorem w8p (ta:taP p) (i:Int) (x:α) (C:List α):∀ (n:Nat) (A B:List α),A.length=n→n≤1000000→adjS p (A++B)→(∀ b B0,B=b::B0→∃ c,p x b=some c∧c < 0) →
  ∃ A' B',A'++B'=A++B∧iter (fun (s:Int×List α)=>gL3 0 p i s.1 s.2) ((n:Int),A++x::(B++C))=some (.inl (wr (i+1),A'++x::(B'++C)))∧adjS p (A'++x::B'):=by
 intro n
 induction n with
 | zero =>
  intro A B hA _ had hB
  obtain rfl:A=[]:=List.length_eq_zero_iff.1 hA
  exact ⟨[],B,rfl,kw (y9y i _),x9g ta x B had hB⟩
 | succ n ih =>
  intro A B hA hn had hB
  obtain ⟨A0,y,rfl⟩:∃ A0 y,A=A0++[y]:=by
   rcases List.eq_nil_or_concat A with rfl | ⟨A0,y,h⟩
   ·simp at hA
   ·exact ⟨A0,y,by simpa using h⟩
  have hA0:A0.length=n:=by simpa using hA
  obtain ⟨c,h1⟩:=ta.1 x y
  subst hA0
  have e1:(A0++[y])++x::(B++C)=A0++y::x::(B++C):=by simp
  by_cases hc:c < 0
  ·obtain ⟨A',B',q1,q2,q3⟩:=ih A0 (y::B) rfl (by omega) (by simpa using had) (fun b B0 e=>by cases e; exact ⟨c,h1,hc⟩)
   refine ⟨A',B',by rw [q1]; simp,?_,q3⟩
   rw [e1]
   exact (z23 (y9z i A0 (B++C) y x (by omega) h1 hc)).trans q2
  ·refine ⟨A0++[y],B,rfl,?_,?_⟩
   ·rw [e1]
    exact kw (y4o i A0 (B++C) y x (by omega) h1 hc)
   ·have:=x9i A0 y x B (x9f _ B had) (x9g ta x B (x9e _ B had) hB) ⟨c,h1,hc⟩
    simpa using this
theorem x6x (ta:taP p) (m:Nat):∀ (rest pre:List α),pre.length+rest.length=m→m≤1000000→adjS p pre →
  ∃ r,r.Perm (pre++rest)∧iter (fun (s:Int×List α)=>gL1 0 (m:Int) p s.1 s.2) ((pre.length:Int),pre++rest)=some r∧adjS p r
 | [],pre,hm,_,had=>by
  refine ⟨pre++[],List.Perm.refl _,kw ?_,by simpa using had⟩
  unfold gL1; rw [if_neg (by simp at hm; simp; omega)]
 | x::rest,pre,hm,hb,had=>by
  simp only [List.length_cons] at hm
  obtain ⟨A',B',q1,q2,q3⟩:=w8p ta (pre.length:Int) x rest pre.length pre [] rfl (by omega) (by simpa using had) (fun b B0 e=>by cases e)
  rw [List.append_nil] at q1
  rw [List.nil_append] at q2
  have hw:wr ((pre.length:Int)+1)=((pre.length+1:Nat):Int):=y5b (by omega)
  have hlen:(A'++x::B').length=pre.length+1:=by
   have:=congrArg List.length q1
   simp at this ⊢; omega
  have hperm:(A'++x::B').Perm (x::pre):=by
   rw [← q1]; exact List.perm_middle
  obtain ⟨r,r1,r2,r3⟩:=x6x ta m rest (A'++x::B') (by rw [hlen]; omega) hb q3
  have e0:A'++x::(B'++rest)=(A'++x::B')++rest:=by simp
  rw [hlen,← hw,← e0] at r2
  have hlt:decide ((pre.length:Int) < (m:Int))=true:=by simp; omega
  refine ⟨r,r1.trans ?_,?_,r3⟩
  ·refine (hperm.append_right rest).trans ?_
   exact List.perm_middle.symm
  ·refine (z23 (s':=(wr ((pre.length:Int)+1),A'++x::(B'++rest))) ?_).trans r2
   unfold gL1
   rw [if_pos hlt]
   exact q2
theorem w9n (ta:taP p) (l:List α) (h:l.length≤1000000):∃ r,r.Perm l∧gIns l 0 (l.length:Int) p=some r∧adjS p r:=by
 have hw:wr ((0:Int)+1)=1:=by decide
 unfold gIns
 rw [hw]
 cases l with
 | nil =>
  refine ⟨[],List.Perm.refl _,kw ?_,trivial⟩
  unfold gL1; rw [if_neg (by simp)]
 | cons x l=>exact x6x ta (x::l).length l [x] (by simp only [List.length_cons,List.length_nil]; omega) h trivial
theorem x6y (m:Nat):∀ (rest A:List α) (y:α),A.length+1+rest.length=m→m≤1000000→adjS p (A++y::rest) →
  iter (fun (s:Int×List α)=>gL1 0 (m:Int) p s.1 s.2) (((A.length+1:Nat):Int),A++y::rest)=some (A++y::rest)
 | [],A,y,hm,_,had=>by
  refine kw ?_
  unfold gL1; rw [if_neg (by simp at hm; simp; omega)]
 | x::rest,A,y,hm,hb,had=>by
  simp only [List.length_cons] at hm
  obtain ⟨c,h1,h2⟩:=x9h A y x rest had
  have hw:wr (((A.length+1:Nat):Int)+1)=((A.length+1+1:Nat):Int):=y5b (by omega)
  have hst:=y4o (p:=p) ((A.length+1:Nat):Int) A rest y x (by omega) h1 h2
  have hlt:decide (((A.length+1:Nat):Int) < (m:Int))=true:=by simp; omega
  have ih:=x6y m rest (A++[y]) x (by simp; omega) hb (by simpa using had)
  have e:(A++[y])++x::rest=A++y::x::rest:=by simp
  rw [e,show (A++[y]).length+1=A.length+1+1 by simp,← hw] at ih
  refine (z23 (s':=(wr (((A.length+1:Nat):Int)+1),A++y::x::rest)) ?_).trans ih
  unfold gL1
  rw [if_pos hlt]
  exact kw hst
theorem w9m (l:List α) (h:l.length≤1000000) (had:adjS p l):gIns l 0 (l.length:Int) p=some l:=by
 have hw:wr ((0:Int)+1)=1:=by decide
 unfold gIns
 rw [hw]
 cases l with
 | nil=>refine kw ?_; unfold gL1; rw [if_neg (by simp)]
 | cons x l=>exact x6y (x::l).length l [] x (by simp; omega) h had
end
noncomputable def wpQ (p:zp):Bs:=(qwQ p.Name++[61])++qwQ p.Value
theorem x9s (p:zp):wpQ p=qwQ p.Name++61::qwQ p.Value:=by unfold wpQ; simp
theorem x9r (p:zp) (h:p.Name.length≤1000∧p.Value.length≤1000):(wpQ p).length≤10000:=by
 have h1:=z4l p.Name
 have h3:=z4l p.Value
 rw [x9s,List.length_append,List.length_cons]
 omega
theorem x1y:∀ (l:List zp) (k:Nat) (q:List Bs),(∀ p,p∈l→(p.Name.length≤1000∧p.Value.length≤1000)∧nilP p=false)→q.length+l.length≤100000→forL (fun (k:Nat) (x:zp) (s:(List Bs))=>Qi k x s) (fun (s:(List Bs))=>z15 s) k l q=z15 (q++l.map wpQ)
 | [],k,q,_,_=>by simp [forL]
 | p::l,k,q,h,hq=>by
  simp only [List.length_cons] at hq
  obtain ⟨h1,h3⟩:=h p (by simp)
  have q1:=z4l p.Name
  have q2:=z4l p.Value
  have e:Qi k p q=some (.inl (q++[wpQ p])):=by
   unfold Qi
   rw [show ((p.Name == []) && ((p.Value == []) && true))=false from h3]
   simp only [Bool.false_eq_true,if_false]
   rw [(z34 p.Name (by omega)).1,(z34 p.Value (by omega)).1]
   simp only [Option.bind_some]
   rw [if_pos (by simp; omega),if_pos (by simp; omega),if_pos (by omega)]; rfl
  show (Qi k p q).bind _=_
  rw [e]
  have:=x1y l (k+1) (q++[wpQ p]) (fun y hy=>h y (List.mem_cons_of_mem _ hy)) (by simp; omega)
  rw [show q++(p::l).map wpQ=(q++[wpQ p])++l.map wpQ by simp]
  exact this
theorem w4f {l:List zp} {t:Bs} (hl:l.length≤100) (h:∀ p,p∈l→(p.Name.length≤1000∧p.Value.length≤1000)∧nilP p=false) (ht:xh l=some (t,0)):t=Lib.join (l.map wpQ) [38]∧t.length≤1000:=by
 unfold xh at ht
 rw [if_neg (by simp; omega),if_pos (by omega),x1y l 0 [] h (by simp; omega),List.nil_append] at ht
 unfold z15 ji at ht
 have hj:=z0x 10000 [38] (l.map wpQ) (fun x hx=>by
  obtain ⟨p,hp,rfl⟩:=List.mem_map.1 hx
  exact x9r p (h p hp).1)
 rw [List.length_map] at hj
 have hj2:l.length * (10000+([38]:Bs).length)≤100 * 10001:=Nat.mul_le_mul hl (by decide)
 rw [if_pos ⟨by rw [List.length_map]; omega,by omega⟩] at ht
 simp only [Option.bind_some] at ht
 by_cases h1:1000 < ((Lib.join (l.map wpQ) [38]).length:Int)
 ·rw [if_pos (by simpa using h1)] at ht; cases ht
 ·rw [if_neg (by simpa using h1)] at ht
  have:=(Prod.mk.inj (Option.some.inj ht)).1
  exact ⟨this.symm,by rw [← this]; omega⟩
/- pairs in order -/
theorem v0q (a b:zp) (c d:Int) (h1:jb a b=some c) (h2':jb b a=some d):d=-c:=by
 unfold jb z2f at h1 h2'
 by_cases h:a.Name=b.Name
 ·have h3:b.Name=a.Name:=h.symm
  simp only [h,ne_eq,not_true_eq_false,decide_false,Bool.false_eq_true,if_false,Option.bind_some] at h1
  simp only [h3,ne_eq,not_true_eq_false,decide_false,Bool.false_eq_true,if_false,Option.bind_some] at h2'
  have:=x0h a.Value b.Value
  have e1:=Option.some.inj h1
  have e2:=Option.some.inj h2'
  rw [← e1,← e2]; exact this
 ·have h3:¬ b.Name=a.Name:=fun e=>h e.symm
  simp only [h,ne_eq,not_false_eq_true,decide_true,if_true,Option.bind_some] at h1
  simp only [h3,ne_eq,not_false_eq_true,decide_true,if_true,Option.bind_some] at h2'
  have:=x0h a.Name b.Name
  have e1:=Option.some.inj h1
  have e2:=Option.some.inj h2'
  rw [← e1,← e2]; exact this
theorem w2y (l:List zp) (hl:l.length≤12):∃ r:List zp,r.Perm l∧Zb l (fun (a0:zp) (a1:zp)=>jb a0 a1)=some r∧Zb r (fun (a0:zp) (a1:zp)=>jb a0 a1)=some r:=by
 have key:∀ (l r:List zp),l.length≤12→r.length=l.length→gIns l 0 (l.length:Int) (fun (a0:zp) (a1:zp)=>jb a0 a1)=some r→Zb l (fun (a0:zp) (a1:zp)=>jb a0 a1)=some r:=by
  intro l r hl hlen h
  obtain ⟨v,hv⟩:=lenN l.length hl
  unfold Zb
  rw [hv]
  simp only [Option.bind_some]
  have e:z8y l 0 (l.length:Int) v (fun (a0:zp) (a1:zp)=>jb a0 a1)=some r:=x7m l r _ v hl h hlen
  rw [e]
  simp only [Option.bind_some]
  rw [if_pos hlen]
 obtain ⟨r,r1,r2,r3⟩:=w9n (p:=fun (a0:zp) (a1:zp)=>jb a0 a1) ⟨fun u v=>x8l u v,fun u v c d h1 h3 hc=>by have:=v0q u v c d h1 h3; omega⟩ l (by omega)
 have hlen:=r1.length_eq
 exact ⟨r,r1,key l r hl hlen r2,key r r (by omega) rfl (w9m r (by omega) r3)⟩
theorem y0b {l:List zg} (hl:l.length≤50) (h:∀ x,x∈l→tokB x.Name=true∧fldB x.Value=true):hdsE l=0:=by
 have key:∀ (l:List zg) (k:Nat),(∀ x,x∈l→hdE x=0)→feI (fun _ h=>hdE h) k l=0:=by
  intro l
  induction l with
  | nil=>intro _ _; rfl
  | cons y l ih =>
   intro k h
   unfold feI
   rw [if_neg (by simp [h y (by simp)])]
   exact ih (k+1) fun x hx=>h x (List.mem_cons_of_mem _ hx)
 unfold hdsE
 rw [if_neg (by omega)]
 refine key l 0 fun x hx => ?_
 unfold hdE
 rw [(h x hx).1,(h x hx).2]; rfl
theorem haR {l:List zg} (h0:hdsE l=0):haP 100 l:=⟨by have:=xl h0; omega,fun y hy=>by
 have h:=z3b h0 y hy
 have h1:=Ye h.1
 have h3:=Wd h.2
 exact ⟨⟨by omega,by omega⟩,Zl h.1,by omega⟩⟩
noncomputable def x63 (s:Bs):Bool:=match z24 s with
 | some true=>(match Wz s with
  | some (h,e)=>decide (h∈jx) && (decide (e=0) && (decide (z24 h=some true) && decide (Wz h=some (h,0))))
  | none=>false)
 | _=>true
theorem w80:jx.all x63=true:=by decide +kernel
theorem x4x {s:Bs} (hl:s.length≤100000):xi s=Wz s:=by
 unfold xi Wz
 rw [z6g s hl]
theorem w8u {s:Bs} (h:s∈jx) (hi:Zu s=some true):∃ g,xi s=some (g,0)∧g∈jx∧Zu g=some true∧xi g=some (g,0):=by
 have h1:=List.all_eq_true.1 w80 s h
 have h2':=of_decide_eq_true (List.all_eq_true.1 y0a s h)
 rw [z6g s (by omega)] at hi
 unfold x63 at h1
 rw [hi] at h1
 simp only at h1
 cases hn:Wz s with
 | none=>rw [hn] at h1; cases h1
 | some q =>
  obtain ⟨g,e⟩:=q
  rw [hn] at h1
  simp only [Bool.and_eq_true,decide_eq_true_eq] at h1
  obtain ⟨k1,k2,k3,k4⟩:=h1
  have h3:=of_decide_eq_true (List.all_eq_true.1 y0a g k1)
  exact ⟨g,by rw [x4x (by omega),hn,k2],k1,by rw [z6g g (by omega)]; exact k3,by rw [x4x (by omega)]; exact k4⟩
def rqC (r:zw):Prop:=momP r.At=true∧tokB r.Method=true∧Zu r.Host=some true∧pthB r.Path=true∧qryB r.Query=true∧fldB r.From=true∧hdsE r.Headers=0∧r.Body.length≤20000
theorem y4z {r:zw} (hr:rqP r) (h:jk r=some 0):rqC r:=by
 obtain ⟨p1,p2,p3,p4,p5,p6⟩:=hr
 obtain ⟨b,q,c1,c2,c3⟩:=y33 p2
 have hh:=(Qz r.Headers p6).1
 unfold jk xy at h
 rw [z6f,Yq _ (by omega),c1,z8l _ (by omega),y2f _ (by omega),z0y _ (by omega),hh] at h
 simp only [Option.bind_some] at h
 unfold rqC
 rw [c1]
 cases e1:momP r.At
 ·rw [e1] at h; simp at h
 cases e2:tokB r.Method
 ·rw [e1,e2] at h; simp at h
 cases b
 ·rw [e1,e2] at h; simp at h
 cases e3:pthB r.Path
 ·rw [e1,e2,e3] at h; simp at h
 cases e4:qryB r.Query
 ·rw [e1,e2,e3,e4] at h; simp at h
 cases e5:fldB r.From
 ·rw [e1,e2,e3,e4,e5] at h; simp at h
 rw [e1,e2,e3,e4,e5] at h
 simp only [Bool.not_true,Bool.false_eq_true,if_false,if_true,ne_eq,not_true_eq_false,decide_false] at h
 by_cases e6:hdsE r.Headers=0
 ·rw [e6] at h
  simp only [not_true_eq_false,decide_false,Bool.false_eq_true,if_false] at h
  by_cases e7:20000 < (r.Body.length:Int)
  ·simp [e7] at h
  ·exact ⟨rfl,rfl,rfl,rfl,rfl,rfl,e6,by omega⟩
 ·simp [e6] at h
theorem x8q {r:zw} (hr:rqP r) (h:rqC r):jk r=some 0:=by
 obtain ⟨p1,p2,p3,p4,p5,p6⟩:=hr
 obtain ⟨e1,e2,e3,e4,e5,e6,e7,e8⟩:=h
 have hh:=(Qz r.Headers p6).1
 unfold jk xy
 rw [z6f,Yq _ (by omega),e3,z8l _ (by omega),y2f _ (by omega),z0y _ (by omega),hh,e1,e2,e4,e5,e6,e7]
 have e9:¬ 20000 < (r.Body.length:Int):=by omega
 simp [e9]
theorem x4v {r:zw} (hr:rqP r) (hc:jk r=some 0) {g:Bs} (hg:xi r.Host=some (g,0)) (k1:(npF r.Path).2=0) {P s:List zp} {t:Bs} (hP:Zv r.Query=some (P,0)) (hPl:P.length≤1000) (hPm:∀ p,p∈P→p.Name.length≤1000∧p.Value.length≤1000)
  (hs:Zb (P.filter fun p => !nilP p) (fun (a0:zp) (a1:zp)=>jb a0 a1)=some s) (hsl:s.length=(P.filter fun p => !nilP p).length) (ht:xh s=some (t,0)) :
  Yl r=some (zw.mk r.At (Lib.toUpperA r.Method) g (npF r.Path).1 t r.From (r.Headers.map lwH) r.Body,0):=by
 obtain ⟨p1,p2,p3,p4,p5,p6⟩:=id hr
 obtain ⟨c1,c2,c3,c4,c5,c6,c7,c8⟩:=y4z hr hc
 have hl:=xl c7
 have hnm:=w85 (haR c7)
 unfold Yl
 rw [hc,hg,(y7g r.Path (by omega)).1,hP]
 simp only [Option.bind_some,ne_eq,not_true_eq_false,decide_false,Bool.false_eq_true,if_false,k1]
 rw [(x0a P hPl hPm).1]
 simp only [Option.bind_some]
 rw [hs]
 simp only [Option.bind_some]
 rw [if_pos hsl,ht]
 have hup:z0g r.Method=some (Lib.toUpperA r.Method):=by
  unfold z0g
  rw [if_pos ⟨by omega,Zl c2⟩]
 have hcl:jj r.Headers=some r.Headers:=by unfold jj; rw [if_pos (by omega)]
 simp only [Option.bind_some,not_true_eq_false,decide_false,Bool.false_eq_true,if_false]
 rw [hup,hcl]
 simp only [Option.bind_some]
 rw [if_pos (by omega)]
 exact lowP (ρ:=Unit) (fun (s:(List zg))=>z8r r (g,0) (npF r.Path) (t,0) (Lib.toUpperA r.Method) s) r.Headers [] hnm
structure NfB (r:zw) (x:zw) where
 g:Bs
 P:List zp
 s:List zp
 chk:jk r=some 0
 host:xi r.Host=some (g,0)
 hin:g∈jx∧Zu g=some true∧xi g=some (g,0)
 path:(npF r.Path).2=0
 parse:Zv r.Query=some (P,0)
 plen:P.length≤12
 pmem:∀ p,p∈P→p.Name.length≤1000∧p.Value.length≤1000
 sort:Zb (P.filter fun p => !nilP p) (fun (a0:zp) (a1:zp)=>jb a0 a1)=some s
 perm:s.Perm (P.filter fun p => !nilP p)
 stay:Zb s (fun (a0:zp) (a1:zp)=>jb a0 a1)=some s
 text:xh s=some (Lib.join (s.map wpQ) [38],0)
 tlen:(Lib.join (s.map wpQ) [38]).length≤1000
 is:x=zw.mk r.At (Lib.toUpperA r.Method) g (npF r.Path).1 (Lib.join (s.map wpQ) [38]) r.From (r.Headers.map lwH) r.Body
theorem w40 {r:zw} (hr:rqP r) (hq:qOK r.Query):∃ x,Yl r=some x∧(x.2=0→Nonempty (NfB r x.1)):=by
 obtain ⟨x,x1,_,_⟩:=w41 r hr hq
 refine ⟨x,x1,fun h0 => ?_⟩
 obtain ⟨e,e1,e2,e3⟩:=x3z r hr
 obtain ⟨p1,p2,p3,p4,p5,p6⟩:=id hr
 have hx:=x1
 unfold Yl at hx
 rw [e1] at hx
 simp only [Option.bind_some] at hx
 by_cases hz:e=0
 ·subst hz
  have hC:=y4z hr e1
  obtain ⟨g,g1,g2,g3,g4⟩:=w8u p2 hC.2.2.1
  obtain ⟨c,c1,c2,c3,c4⟩:=x4c r.Query (by omega)
  rw [if_neg (by decide),g1,(y7g r.Path (by omega)).1,c1] at hx
  simp only [Option.bind_some] at hx
  by_cases k1:(npF r.Path).2=0
  ·rw [if_neg (by simpa using k1)] at hx
   by_cases k2:c.2=0
   ·rw [if_neg (by simpa using k2)] at hx
    obtain ⟨c5,c6,c7⟩:=c4 k2
    have hmem:=x4d c7
    rw [← c5] at hmem
    have hfew:c.1.length≤12:=by rw [c5]; exact x4e hq (by rw [← c5]; exact c6)
    have hfl:=List.length_filter_le (fun p => !nilP p) c.1
    rw [(x0a c.1 (by omega) hmem).1] at hx
    simp only [Option.bind_some] at hx
    obtain ⟨s,s1,s2,s3⟩:=w2y (c.1.filter fun p => !nilP p) (by omega)
    rw [s2] at hx
    simp only [Option.bind_some] at hx
    rw [if_pos s1.length_eq] at hx
    have hsm:∀ p,p∈s→(p.Name.length≤1000∧p.Value.length≤1000)∧nilP p=false:=fun p hp=>by
     have:=List.mem_filter.1 (s1.mem_iff.1 hp)
     exact ⟨hmem p this.1,by simpa using this.2⟩
    have hsl:s.length≤12:=by rw [s1.length_eq]; omega
    obtain ⟨t,t1,t2⟩:=x1x s (by omega) fun p hp=>(hsm p hp).1
    rw [t1] at hx
    simp only [Option.bind_some] at hx
    by_cases k3:t.2=0
    ·have ht:xh s=some (t.1,0):=by rw [t1,← k3]
     obtain ⟨t3,t4⟩:=w4f (by omega) hsm ht
     have hcp:Zv r.Query=some (c.1,0):=by rw [c1,← k2]
     have hcalc:=x4v hr e1 g1 k1 hcp (by omega) hmem s2 s1.length_eq ht
     have hxx:=Option.some.inj (x1.symm.trans hcalc)
     refine ⟨⟨g,c.1,s,e1,g1,⟨g2,g3,g4⟩,k1,hcp,hfew,hmem,s2,s1,s3,by rw [← t3]; exact ht,by rw [← t3]; exact t4,?_⟩⟩
     rw [hxx,t3]
    ·rw [if_pos (by simpa using k3)] at hx
     have:=Option.some.inj hx
     rw [← this] at h0
     exact absurd h0 k3
   ·rw [if_pos (by simpa using k2)] at hx
    have:=Option.some.inj hx
    rw [← this] at h0
    exact absurd h0 k2
  ·rw [if_pos (by simpa using k1)] at hx
   have:=Option.some.inj hx
   rw [← this] at h0
   exact absurd h0 k1
 ·rw [if_pos (by simpa using hz)] at hx
  have:=Option.some.inj hx
  rw [← this] at h0
  exact absurd h0 hz
theorem y11 {h:zg} (ho:hdOK h):smH h:=⟨Zl ho.1,Ye ho.1,Wd ho.2⟩
theorem Zz {l:List zg} (h0:hdsE l=0):∀ h,h∈l→hdOK h:=fun h hh=>z3b h0 h hh
theorem w8j:(List.range 101).all (fun n=>okN 9 (Lib.itoa (n:Int)) && (decide (valB (Lib.itoa (n:Int))=(n:Int)) && (lgB (Lib.itoa (n:Int)) && fldB (Lib.itoa (n:Int)))))=true:=by decide +kernel
theorem y9c (n:Nat) (h:n≤100):okN 9 (Lib.itoa (n:Int))=true∧valB (Lib.itoa (n:Int))=(n:Int)∧lgB (Lib.itoa (n:Int))=true∧fldB (Lib.itoa (n:Int))=true:=by
 have:=(List.all_eq_true.1 w8j) n (List.mem_range.2 (by omega))
 simp only [Bool.and_eq_true,decide_eq_true_eq] at this
 exact this
abbrev clH (n:Nat):zg:=zg.mk cl_ (Lib.itoa (n:Int))
theorem v03 (n:Nat) (h:n≤100):hdOK (clH n):=⟨by show tokB cl_=true; decide +kernel,(y9c n h).2.2.2⟩
abbrev plH (l:List zg):List zg:=l.filter fun h => !frB h
theorem x4g (l:List zg) (b:List zg) (n:Bs) (hn:n=cl_∨n=te_):yo n (plH l++b)=yo n b:=by
 unfold yo
 rw [List.filter_append,List.map_append]
 have:(plH l).filter (nmB n)=[]:=by
  rw [List.filter_eq_nil_iff]
  intro a ha
  have h1:=(List.mem_filter.1 ha).2
  have h2:frB a=false:=by simpa using h1
  unfold frB at h2
  simp only [Bool.or_eq_false_iff] at h2
  rcases hn with rfl | rfl
  ·rw [h2.1]; simp
  ·rw [h2.2]; simp
 rw [this]; rfl
theorem x8p (n:Nat):yo cl_ [clH n]=[Lib.itoa (n:Int)]∧yo te_ [clH n]=[]:=by
 have h1:nmB cl_ (clH n)=true:=by show nmB cl_ ⟨cl_,_⟩=true; unfold nmB; first | rfl | simp
 have h2:nmB te_ (clH n)=false:=by show nmB te_ ⟨cl_,_⟩=false; unfold nmB; first | rfl | decide
 unfold yo
 rw [List.filter_cons_of_pos h1,List.filter_cons_of_neg (by rw [h2]; simp)]
 exact ⟨rfl,rfl⟩
theorem w9r (n:Nat):frB (clH n)=true:=by
 have h1:nmB cl_ (clH n)=true:=by show nmB cl_ ⟨cl_,_⟩=true; unfold nmB; first | rfl | simp
 unfold frB; rw [h1]; rfl
theorem v1j (L:List zg) (b:Bs) (h:∀ y,y∈L→hdOK y) (hl:L.length≤1000) (hb:b.length≤100) (hte:yo te_ L=[]) (hcl:yo cl_ L=[Lib.itoa (b.length:Int)]):z0n L b=some (b,(b.length:Int),0):=by
 have v1:=(ki L cl_ hl (Wa h) ⟨rfl,by decide⟩).1
 have v2:=(ki L te_ hl (Wa h) ⟨rfl,by decide⟩).1
 rw [hcl] at v1
 rw [hte] at v2
 obtain ⟨o1,o2,o3,o4⟩:=y9c b.length hb
 have hk:z0r (Lib.itoa (b.length:Int))=some ((b.length:Int),true):=by
  have hK:z2m (Lib.itoa (b.length:Int)) 9=_:=x5n _ 9 (by omega) (by have:=Wd o4; omega)
  unfold z0r
  rw [hK]
  simp only [Option.bind_some]
  rw [o1,o2]; rfl
 unfold z0n
 show (ve L te_).bind _=_
 rw [v2]
 simp only [Option.bind_some]
 rw [if_neg (by simp)]
 show (ve L cl_).bind _=_
 rw [v1]
 simp only [Option.bind_some]
 rw [if_neg (by simp)]
 simp only [List.getElem?_cons_zero,Option.bind_some]
 rw [hk]
 simp only [Option.bind_some]
 have hs:sub? b 0 (b.length:Int)=some b:=by have:=Ws b 0 (by omega); simpa using this
 rw [if_neg (by simp; omega),if_neg (by simp),hs]
 rfl
theorem x3y (s first b:Bs) (L:List zg) (n:Nat) (hosts:Int) (h:∀ y,y∈L→hdOK y) (hl:L.length≤1000) (hs:s.length≤60000) (hsuf:b <:+ s) (hfr:frE hosts (yo cl_ L) (yo te_ L)=0) (hbd:z0n L b=some (b,(b.length:Int),0)) :
  ∃ m,z2x (jc.mk first L ((s.length - b.length:Nat):Int)) s hosts=some (plH L,b,m,0):=by
 have hrl:=hsuf.length_le
 have hdr:s.drop (s.length - b.length)=b:=(List.suffix_iff_eq_drop.1 hsuf).symm
 have hsub:=Ws s (s.length - b.length) (by omega)
 rw [hdr] at hsub
 have hcl:jj L=some L:=by unfold jj; rw [if_pos (by omega)]
 have hdel:z5i L (fun (a0:zg)=>z0l a0)=some (plH L):=
  y4p (zg.mk [] []) L frB (by omega) fun x hx=>x7s x (Wa h x hx)
 unfold z2x
 rw [w9q L hosts h hl,hfr]
 simp only [Option.bind_some]
 rw [if_neg (by simp),hsub]
 simp only [Option.bind_some]
 rw [hbd]
 simp only [Option.bind_some]
 rw [if_neg (by simp),hcl]
 simp only [Option.bind_some]
 rw [hdel]
 exact ⟨_,rfl⟩
theorem v0p (p r:Bs) (h:(p++r).length≤1000000):Qo (p++r) p=some (r,true):=by
 have h0:sub? (p++r) 0 (p.length:Int)=some p:=by
  unfold sub?
  rw [if_pos (by simp; omega)]
  simp
 have h1:sub? (p++r) (p.length:Int) ((p++r).length:Int)=some r:=by
  rw [Ws _ _ (by simp)]
  simp
 unfold Qo z89 z88 z25
 rw [if_pos (by simp; omega),h0]
 simp only [Option.bind_some]
 rw [if_neg (by simp),h1]
 rfl
theorem w2r:(List.range 500).all (fun k=>[[79,75],[45]].all fun rs=>stG ((Lib.itoa ((k+100:Nat):Int)++[32])++rs) && (decide (nvB (((Lib.itoa ((k+100:Nat):Int)++[32])++rs).take 3)=k+100) && !(((Lib.itoa ((k+100:Nat):Int)++[32])++rs).contains 13)))=true:=by decide +kernel
theorem x20 (n:Int) (h:100≤n∧n≤599) (rs:Bs) (hr:rs=[79,75]∨rs=[45]):stG ((Lib.itoa n++[32])++rs)=true∧(nvB (((Lib.itoa n++[32])++rs).take 3):Int)=n∧(13:UInt8) ∉ ((Lib.itoa n++[32])++rs):=by
 have:=(List.all_eq_true.1 w2r) (n.toNat - 100) (List.mem_range.2 (by omega))
 have:=(List.all_eq_true.1 this) rs (by rcases hr with rfl | rfl <;> simp)
 have e:((n.toNat - 100+100:Nat):Int)=n:=by omega
 rw [e] at this
 simp only [Bool.and_eq_true,decide_eq_true_eq,Bool.not_eq_true',List.contains_eq_mem,decide_eq_false_iff_not] at this
 exact ⟨this.1,by rw [this.2.1]; omega,this.2.2⟩
theorem w2q (n:Int) (h:100≤n∧n≤599) (rs:Bs) (hr:rs=[79,75]∨rs=[45]):z5l (pxH++((Lib.itoa n++[32])++rs))=some (n,true):=by
 obtain ⟨s1,s2,s3⟩:=x20 n h rs hr
 have hl:((Lib.itoa n++[32])++rs).length≤100:=by
  have:=(y3x n (by omega)).2
  rcases hr with rfl | rfl <;> simp <;> omega
 obtain ⟨p,p1,p2,p3,_⟩:=x2z (pxH++((Lib.itoa n++[32])++rs)) (by simp [pxH] at hl ⊢; omega)
 rw [v0p pxH _ (by simp [pxH] at hl ⊢; omega)] at p1
 obtain rfl:=(Option.some.inj p1).symm
 rw [p3]
 simp only [Bool.true_and,s1,if_true,s2]
theorem y2d (a:yb) (h:hdsP a.Headers):kl a=some (if outP a.Status 100 599 then 1 else if hdsE a.Headers≠0 then hdsE a.Headers else if 20000 < (a.Body.length:Int) then 2 else 0):=by
 have hh:=(Qz a.Headers h).1
 unfold kl
 rw [z4n,hh]
 simp only [Option.bind_some]
 split
 ·rfl
 ·simp only [decide_eq_true_eq]
  split
  ·rfl
  ·split <;> rfl
theorem x9p (a:yb) (hl:a.Headers.length≤50) (ho:∀ h,h∈a.Headers→hdOK h) (hb:a.Body.length≤20000) (hst:0≤a.Status∧a.Status≤1000) (hc:kl a=some 0) :
  ∃ rs:Bs,(rs=[79,75]∨rs=[45])∧z0o a=some ((pxH++((Lib.itoa a.Status++[32])++rs))++(crl++((plH a.Headers++[clH a.Body.length]).flatMap lnB++(crl++a.Body))),0):=by
 have hs:∀ h,h∈a.Headers→smH h:=fun h hh=>y11 (ho h hh)
 obtain ⟨i1,i2⟩:=y3x (a.Body.length:Int) (by omega)
 obtain ⟨j1,j2⟩:=y3x a.Status (by omega)
 have hL:=z9q frB _ hs
 have key:∀ rs:Bs,rs.length≤2→z13 a rs=some ((pxH++((Lib.itoa a.Status++[32])++rs))++(crl++((plH a.Headers++[clH a.Body.length]).flatMap lnB++(crl++a.Body))),0):=by
  intro rs hrs
  unfold z13
  rw [j1,i1]
  simp only [Option.bind_some]
  have e0:kk ([]:List Int) (((([72,84,84,80,47,49,46,49,32]++Lib.itoa a.Status)++[32])++rs)++[13,10])=some (((((([72,84,84,80,47,49,46,49,32]++Lib.itoa a.Status)++[32])++rs)++[13,10]).length:Int),0,yk (((([72,84,84,80,47,49,46,49,32]++Lib.itoa a.Status)++[32])++rs)++[13,10])):=wstr [] _ (by simp; omega)
  rw [if_pos (by simp; omega),if_pos (by simp; omega),if_pos (by simp; omega),if_pos (by simp; omega),e0]
  simp only [Option.bind_some]
  rw [x5l _ _ (by omega) hs (by simp; omega)]
  simp only [Option.bind_some]
  rw [if_pos (by simp; omega),if_pos (by simp; omega),if_pos (by simp; omega),if_pos (by simp; omega),wstr _ _ (by simp; omega)]
  simp only [Option.bind_some]
  rw [if_pos (y0x _),Wt,y8t]
  simp [pxH,lnB]
 unfold z0o
 rw [hc]
 simp only [Option.bind_some]
 rw [if_neg (by simp)]
 split
 ·exact ⟨_,.inl rfl,key _ (by simp)⟩
 ·exact ⟨_,.inr rfl,key _ (by simp)⟩
theorem y8u:∀ L:List zg,L.length≤(L.flatMap lnB).length
 | []=>by simp
 | x::l=>by
  have:=y8u l
  rw [List.flatMap_cons,List.length_append,List.length_cons]
  have:1≤(lnB x).length:=by simp [lnB]; omega
  omega
theorem w31 (a:yb) (h0:hdsE a.Headers=0) (hl:a.Headers.length≤15) (hb:a.Body.length≤100) (hc:kl a=some 0) :
  ∃ t n,z0o a=some (t,0)∧z2j t=some (yb.mk a.Status (plH a.Headers) a.Body,n,0):=by
 have ho:=Zz h0
 have hP:=z6q ho (by omega)
 have hst:100≤a.Status∧a.Status≤599:=by
  have:=y2d a hP
  rw [hc] at this
  have:=Option.some.inj this
  by_cases h1:outP a.Status 100 599=true
  ·rw [if_pos h1] at this; cases this
  ·unfold outP at h1; simp at h1; omega
 obtain ⟨rs,hr,hw⟩:=x9p a (by omega) ho (by omega) (by omega) hc
 obtain ⟨s1,s2,s3⟩:=x20 a.Status hst rs hr
 have hLo:∀ y,y∈plH a.Headers++[clH a.Body.length]→hdOK y:=fun y hy=>by
  rcases List.mem_append.1 hy with h1 | h1
  ·exact ho y (List.mem_filter.1 h1).1
  ·rw [List.mem_singleton.1 h1]; exact v03 _ hb
 have hpl:(plH a.Headers).length≤a.Headers.length:=List.length_filter_le _ _
 have hLl:(plH a.Headers++[clH a.Body.length]).length≤16:=by simp; omega
 have hfl:=z9q (fun _=>false) (plH a.Headers++[clH a.Body.length]) fun y hy=>y11 (hLo y hy)
 have hfe:lnF (fun _=>false) (plH a.Headers++[clH a.Body.length])=(plH a.Headers++[clH a.Body.length]).flatMap lnB:=by unfold lnF; simp
 rw [hfe] at hfl
 have hil:=(y3x a.Status (by omega)).2
 have hrl:rs.length≤2:=by rcases hr with rfl | rfl <;> simp
 generalize hF:pxH++((Lib.itoa a.Status++[32])++rs)=first at *
 have hfl2:first.length≤60:=by rw [← hF]; simp [pxH]; omega
 have h13:(13:UInt8) ∉ first:=by
  rw [← hF]
  simp only [List.mem_append] at s3 ⊢
  intro hx
  rcases hx with hx | hx
  ·revert hx; decide
  ·exact s3 hx
 generalize hL:plH a.Headers++[clH a.Body.length]=L at *
 have hbs:(a.Body).length≤100:=hb
 have hq:((L.flatMap lnB++(crl++a.Body))).length≤59000:=by
  rw [List.length_append,List.length_append]
  have:crl.length=2:=rfl
  omega
 have hhd:=x66 first (L.flatMap lnB++(crl++a.Body)) a.Body L h13 (by simp at hq ⊢; omega) fun n hn=>by
  have:=y9k L [] n a.Body hLo (by have:=y8u L; rw [List.length_append] at hn; omega)
  simpa using this
 generalize hT:first++(crl++(L.flatMap lnB++(crl++a.Body)))=t at *
 have htl:t.length≤60000:=by rw [← hT]; simp at hq ⊢; omega
 have hsuf:a.Body <:+ t:=⟨first++(crl++(L.flatMap lnB++crl)),by rw [← hT]; simp⟩
 have hv1:yo cl_ L=[Lib.itoa (a.Body.length:Int)]:=by rw [← hL,x4g _ _ _ (.inl rfl)]; exact (x8p _).1
 have hv2:yo te_ L=[]:=by rw [← hL,x4g _ _ _ (.inr rfl)]; exact (x8p _).2
 have hbd:=v1j L a.Body hLo (by omega) hb hv2 hv1
 obtain ⟨m,hm⟩:=x3y t first a.Body L 0 0 hLo (by omega) htl hsuf (by rw [hv1,hv2]; unfold frE; simp [(y9c a.Body.length hb).2.2.1]) hbd
 have hplL:plH L=plH a.Headers:=by
  rw [← hL]
  unfold plH
  rw [List.filter_append,List.filter_filter,List.filter_cons_of_neg (by rw [w9r]; simp)]
  simp
 have hh0:hdsE (plH a.Headers)=0:=y0b (by omega) fun x hx=>ho x (List.mem_filter.1 hx).1
 have hck:kl (yb.mk a.Status (plH a.Headers) a.Body)=some 0:=by
  rw [y2d _ (z6q (Zz hh0) (by simp; omega))]
  have h1:outP a.Status 100 599=false:=by unfold outP; simp; omega
  simp only [h1,hh0,Bool.false_eq_true,if_false,ne_eq,not_true_eq_false]
  rw [if_neg (by omega)]
 refine ⟨t,m,hw,?_⟩
 unfold z2j
 rw [if_neg (by simp; omega),hhd]
 simp only [Option.bind_some]
 rw [← hF,w2q a.Status hst rs hr]
 simp only [Option.bind_some]
 rw [if_neg (by simp),if_neg (by simp; omega),hF,hm]
 simp only [Option.bind_some]
 rw [if_neg (by simp),hplL,hck]
 rfl
end Go.Proofs.YtahcnngcpjkpgabGreatDoor
