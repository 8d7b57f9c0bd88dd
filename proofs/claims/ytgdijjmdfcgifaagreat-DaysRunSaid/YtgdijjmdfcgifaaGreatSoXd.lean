/- Plain: sorting by insertion gives a list in order, and leaves one in order as it is. -/
import Derived.Test.YtgdijjmdfcgifaaGreatXda
import Derived.Test.YtgdijjmdfcgifaaGreatXdv
namespace Go.Proofs.YtgdijjmdfcgifaaGreat
set_option linter.unusedVariables false
set_option maxRecDepth 20000
structure DC (s:qb) (ph:List zz) (ats:List Int):Prop where
 ins:InsG s.Instances
 tr:1≤s.Tries∧s.Tries≤5
 tm:1≤s.Timeout∧s.Timeout≤3600000
 wt:0≤s.Wait∧s.Wait≤s.MostWait
 mw:s.MostWait≤3600000
 bd:budF s.Budget=0
 ol:OlB s.Outliers
 pf:phF s.Instances ph=0
 phl:ph.length≤500
 ats:ats.length≤1000
theorem y4d {α:Type} {e:Nat→α→Int}:∀ (l:List α) (k:Nat),feI e k l=0→∀ (j:Nat) x,l[j]?=some x→e (k+j) x=0
 | [],k,_,j,x,h=>by simp at h
 | y::l,k,h,j,x,hx=>by
  simp only [feI] at h
  by_cases hc:e k y≠0
  ·rw [if_pos hc] at h; exact absurd h hc
  ·rw [if_neg hc] at h
   have hc:e k y=0:=by omega
   cases j with
   | zero =>
    simp only [List.getElem?_cons_zero,Option.some.injEq] at hx
    subst hx; exact hc
   | succ j =>
    rw [List.getElem?_cons_succ] at hx
    have:=y4d l (k+1) h j x hx
    rw [show k+(j+1)=k+1+j by omega]; exact this
def phQ (x y:zz):Prop:=cmpL x.Instance y.Instance < 0∨(x.Instance=y.Instance∧x.Time.To≤y.Time.From)
structure PhB (x:zz):Prop where
 t:0≤x.Time.From∧x.Time.From < x.Time.To
 k:0≤x.Took∧x.Took≤3600000
theorem z9k {xs:List zl} {ph:List zz} (h:phF xs ph=0) {j:Nat} {x:zz} (hx:ph[j]?=some x):PhB x∧(0 < j→∃ y,ph[j - 1]?=some y∧phQ y x):=by
 unfold phF at h
 split at h
 ·omega
 have h1:=y4d ph 0 h j x hx
 rw [Nat.zero_add] at h1
 have hjl:=wq hx
 unfold phE at h1
 split at h1
 ·omega
 split at h1
 ·omega
 rename_i h2 h3
 simp only [outP,Bool.or_eq_true,decide_eq_true_eq,not_or] at h3
 refine ⟨⟨by omega,by omega⟩,fun h0 => ?_⟩
 obtain ⟨y,hy⟩:∃ y,ph[j - 1]?=some y:=⟨_,List.getElem?_eq_getElem (by omega)⟩
 refine ⟨y,hy,?_⟩
 rw [hy] at h1
 split at h1
 ·omega
 rename_i h4
 simp only [Option.getD_some,Bool.and_eq_true,Bool.or_eq_true,decide_eq_true_eq,y3v,not_and,not_or] at h4
 obtain ⟨h5,h6⟩:=h4 h0
 have h7:=y4l y.Instance x.Instance
 by_cases he:cmpL x.Instance y.Instance=0
 ·have he:=(Zv _ _).1 he
  have:=h6 he
  exact .inr ⟨he.symm,by omega⟩
 ·exact .inl (by omega)
theorem x6g {x y z:zz} (hy:PhB y) (h1:phQ x y) (h2:phQ y z):phQ x z:=by
 have:=hy.t
 rcases h1 with h1 | ⟨h1,h1'⟩
 ·rcases h2 with h2 | ⟨h2,h2'⟩
  ·exact .inl (z7t _ _ _ h1 h2)
  ·exact .inl (by rw [← h2]; exact h1)
 ·rcases h2 with h2 | ⟨h2,h2'⟩
  ·exact .inl (by rw [h1]; exact h2)
  ·exact .inr ⟨h1.trans h2,by omega⟩
theorem y7y {xs:List zl} {ph:List zz} (h:phF xs ph=0):∀ (d i:Nat) x y,ph[i]?=some x→ph[i+d+1]?=some y→phQ x y
 | 0,i,x,y,hx,hy=>by
  obtain ⟨_,h1⟩:=z9k h hy
  obtain ⟨z,hz,hq⟩:=h1 (by omega)
  rw [show i+0+1 - 1=i by omega,hx] at hz
  cases hz; exact hq
 | d+1,i,x,y,hx,hy=>by
  obtain ⟨_,h1⟩:=z9k h hy
  obtain ⟨z,hz,hq⟩:=h1 (by omega)
  rw [show i+(d+1)+1 - 1=i+d+1 by omega] at hz
  exact x6g (z9k h hz).1 (y7y h d i x z hx hz) hq
def phM (key:Bs) (v:Int) (x:zz):Bool:=(decide (x.Instance=key) && decide (x.Time.From≤v)) && decide (v < x.Time.To)
theorem x6f {xs:List zl} {ph:List zz} (h:phF xs ph=0) (key:Bs) (v:Int):ph.filter (phM key v)=[]∨∃ x,x∈ph∧ph.filter (phM key v)=[x]:=by
 have hp:ph.Pairwise phQ:=by
  rw [List.pairwise_iff_getElem]
  intro i j hi hj hij
  have:=y7y h (j - i - 1) i ph[i] ph[j] (List.getElem?_eq_getElem hi) (by rw [show i+(j - i - 1)+1=j by omega]; exact List.getElem?_eq_getElem hj)
  exact this
 have hf:=hp.filter (phM key v)
 cases he:ph.filter (phM key v) with
 | nil=>exact .inl rfl
 | cons x l =>
  have hx:x∈ph.filter (phM key v):=by rw [he]; simp
  refine .inr ⟨x,(List.mem_filter.1 hx).1,?_⟩
  cases l with
  | nil=>rfl
  | cons y l =>
   exfalso
   have hy:y∈ph.filter (phM key v):=by rw [he]; simp
   rw [he] at hf
   have hq:=(List.pairwise_cons.1 hf).1 y (by simp)
   have m1:=(List.mem_filter.1 hx).2
   have m2:=(List.mem_filter.1 hy).2
   unfold phM at m1 m2
   simp only [Bool.and_eq_true,decide_eq_true_eq] at m1 m2
   rcases hq with hq | ⟨_,hq⟩
   ·rw [m1.1.1,m2.1.1,(Zv key key).2 rfl] at hq; omega
   ·omega
theorem w1t (s:qb) {ph:List zz} (hl:ph.length≤500) {i:Nat} {x:zl} (hx:s.Instances[i]?=some x) (v:Int) :
  z3p ⟨s,ph,[],[],none,[],[]⟩ (i:Int) v=some (match (ph.filter (phM x.Key v)).head? with | some y=>(y,true) | none=>(⟨[],⟨0,0⟩,0,0⟩,false)):=by
 unfold z3p
 rw [if_pos (by show ph.length≤_; omega)]
 have key:∀ (l:List zz) (k:Nat),forL (fun (k:Nat) (x:zz) (q:Unit)=>z01 ⟨s,ph,[],[],none,[],[]⟩ (i:Int) v k x) (fun (q:Unit)=>z72) k l ()=some (match (l.filter (phM x.Key v)).head? with | some y=>(y,true) | none=>(⟨[],⟨0,0⟩,0,0⟩,false)):=by
  intro l
  induction l with
  | nil=>intro k; rfl
  | cons y l ih =>
   intro k
   have e:z01 ⟨s,ph,[],[],none,[],[]⟩ (i:Int) v k y=if phM x.Key v y=true then some (.inr (y,true)) else some (.inl ()):=by
    unfold z01
    simp only
    rw [vz,hx]
    rfl
   show (z01 ⟨s,ph,[],[],none,[],[]⟩ (i:Int) v k y).bind _=_
   rw [e]
   by_cases h:phM x.Key v y=true
   ·rw [if_pos h,List.filter_cons_of_pos h]
    rfl
   ·rw [if_neg h,List.filter_cons_of_neg h]
    exact ih (k+1)
 exact key ph 0
theorem z9j (s:qb) (best:Bs) (v:Int):∀ (l:List zz) (k:Nat) (t:Int×Int),forL (Qw s best v) z52 k l t=some ((l.filter (phM best v)).foldl (fun t x=>if x.Took≤s.Timeout then (wr (v+x.Took),x.Status) else t) t)
 | [],k,t=>rfl
 | x::l,k,t=>by
  show (Qw s best v k x t).bind _=_
  unfold Qw
  by_cases h:phM best v x=true
  ·rw [List.filter_cons_of_pos h]
   have h':=h
   unfold phM at h'
   rw [h',Bool.true_and]
   by_cases h2:x.Took≤s.Timeout
   ·rw [if_pos (by simpa using h2)]
    show forL (Qw s best v) z52 (k+1) l _=some (List.foldl _ (if _ then _ else _) _)
    rw [if_pos h2]
    exact z9j s best v l (k+1) _
   ·rw [if_neg (by simpa using h2)]
    show forL (Qw s best v) z52 (k+1) l _=some (List.foldl _ (if _ then _ else _) _)
    rw [if_neg h2]
    exact z9j s best v l (k+1) _
  ·rw [List.filter_cons_of_neg h]
   have h':phM best v x=false:=by simpa using h
   unfold phM at h'
   rw [h',Bool.false_and,if_neg (by simp)]
   exact z9j s best v l (k+1) t
def wC (c:yj):Nat:=if c.state_=2 then 0 else if c.state_=0 then 2 * (5 - c.out_.Tries.length)+2 else 2 * (5 - c.out_.Tries.length)+1
def muC (cs:List yj):Nat:=(cs.map wC).sum
theorem z8t:∀ (cs:List yj) (k:Nat) (c c':yj),cs[k]?=some c→muC (cs.set k c')+wC c=muC cs+wC c'
 | [],k,c,c',h=>by simp at h
 | x::cs,0,c,c',h=>by
  simp only [List.getElem?_cons_zero,Option.some.injEq] at h
  subst h
  simp only [List.set_cons_zero,muC,List.map_cons,List.sum_cons]
  omega
 | x::cs,k+1,c,c',h=>by
  rw [List.getElem?_cons_succ] at h
  have:=z8t cs k c c' h
  simp only [List.set_cons_succ,muC,List.map_cons,List.sum_cons] at this ⊢
  omega
def nx (c:yj):Int:=if c.state_=0 then c.start_ else -1
structure DyI (s:qb) (kk:Nat) (again:List Int) (way:List qv) (sent:Int) (cs:List yj) (sd:qj) (bench:qn):Prop where
 st:∃ L r t u n1 n2 n3,sd=qj.mk s.Outliers L∧bench=qn.mk s.Instances s.Outliers (n1,r) (n2,t) (n3,u)∧SR s.Instances (kk:Int) L r t u∧n1≤2 * kk∧n2≤2 * kk∧n3≤2 * kk
 mu:muC cs+kk≤100
 ag:again.length≤kk
 wl:way.length≤kk
 nl:cs.length≤300
 se:0≤sent∧sent≤(kk:Int)
 nb:∀ u,u∈way→u.number_ < sent
 nr:way.Pairwise fun a b=>a.number_ < b.number_
 dc:way.Pairwise fun a b=>a.call_≠b.call_
 wy:∀ u,u∈way→hasK s.Instances u.try_.Instance=true∧0≤u.call_∧0≤u.try_.Done∧∃ c,cs[u.call_.toNat]?=some c∧c.state_=1∧u.try_.Done≤345686400000+7200000 * (c.out_.Tries.length:Int)+3600000
 le:∀ (k:Nat) c,cs[k]?=some c→c.out_.Tries.length≤5
 go:∀ (k:Nat) c,cs[k]?=some c→c.state_=0∨c.state_=1→(c.out_.Tries.length:Int) < s.Tries∧c.out_.Done=0∧c.out_.Status=0∧∀ (i:Nat) x,s.Instances[i]?=some x→tsB c.tried_ (i:Int)=((c.out_.Tries.any fun t=>decide (t.Instance=x.Key)) || way.any fun u=>decide (u.call_=(k:Int)) && decide (u.try_.Instance=x.Key))
 z:∀ (k:Nat) c,cs[k]?=some c→c.state_=0→(∀ u,u∈way→u.call_≠(k:Int))∧0≤c.start_∧c.start_≤345686400000+7200000 * (c.out_.Tries.length:Int)
section
variable {s:qb} {ph:List zz} {ats:List Int} {kk:Nat} {again:List Int} {way A B:List qv} {sent:Int} {cs:List yj} {sd:qj} {bench:qn}
theorem Qv {α:Type} {l:List α} {k:Nat} {c c':α} (hc:l[k]?=some c) {j:Nat} {d:α} (h:(l.set k c')[j]?=some d):(j=k∧d=c')∨(j≠k∧l[j]?=some d):=by
 by_cases hj:k=j
 ·subst hj
  rw [List.getElem?_set_self (wq hc)] at h
  cases h; exact .inl ⟨rfl,rfl⟩
 ·rw [List.getElem?_set_ne hj] at h
  exact .inr ⟨Ne.symm hj,h⟩
theorem w1a {u:qv} (h:(A++u::B).Pairwise fun a b=>a.call_≠b.call_):∀ w,w∈A++B→w.call_≠u.call_:=by
 obtain ⟨h1,h2,h3⟩:=List.pairwise_append.1 h
 intro w hw
 rcases List.mem_append.1 hw with hw | hw
 ·exact h3 w hw u (by simp)
 ·exact Ne.symm ((List.pairwise_cons.1 h2).1 w hw)
theorem z8u {α:Type} {A B:List α} {u:α}:(A++B).Sublist (A++u::B):=List.Sublist.append (List.Sublist.refl A) (List.sublist_cons_self u B)
theorem y7o {u:qv} (h:DyI s kk again (A++u::B) sent cs sd bench) {k:Nat} (hk:u.call_=(k:Int)) {c c':yj} (hc:cs[k]?=some c) {again':List Int} {sd':qj} {bench':qn}
  (hst:∃ L r t u n1 n2 n3,sd'=qj.mk s.Outliers L∧bench'=qn.mk s.Instances s.Outliers (n1,r) (n2,t) (n3,u)∧SR s.Instances ((kk+1:Nat):Int) L r t u∧n1≤2 * (kk+1)∧n2≤2 * (kk+1)∧n3≤2 * (kk+1))
  (hag:again'.length≤kk+1) (hT:s.Tries≤5) (ht:c'.out_.Tries=c.out_.Tries++[u.try_]) (htr:c'.tried_=c.tried_)
  (hs:c'.state_=2∨(c'.state_=0∧((c.out_.Tries.length:Int)+1 < s.Tries)∧c'.out_.Done=0∧c'.out_.Status=0∧u.try_.Done≤c'.start_∧c'.start_≤u.try_.Done+3600000)) :
  DyI s (kk+1) again' (A++B) sent (cs.set k c') sd' bench':=by
 obtain ⟨w1,w2,w3,c0,w4,w5,w6⟩:=h.wy u (by simp)
 rw [hk,Int.toNat_natCast,hc] at w4
 cases w4
 obtain ⟨g1,g2,g3,g4⟩:=h.go k c hc (.inr w5)
 have hd:=w1a h.dc
 have hl:c'.out_.Tries.length=c.out_.Tries.length+1:=by rw [ht]; simp
 have hmem:∀ w,w∈A++B→w∈A++u::B:=fun w hw=>z8u.subset hw
 have hmu:=z8t cs k c c' hc
 have hm:=h.mu
 have hwc:wC c'+1≤wC c:=by
  unfold wC
  rw [w5]
  rcases hs with hs | ⟨hs,hs2,_⟩
  ·rw [hs]; simp
  ·rw [hs]; simp; omega
 refine ⟨hst,by omega,hag,?_,by rw [List.length_set]; exact h.nl,⟨h.se.1,by have:=h.se.2; omega⟩,fun w hw=>h.nb w (hmem w hw),h.nr.sublist z8u,h.dc.sublist z8u,fun w hw => ?_,fun j d hj => ?_,fun j d hj hd2 => ?_,fun j d hj hd2 => ?_⟩
 ·have:=h.wl
  simp only [List.length_append,List.length_cons] at this ⊢
  omega
 ·obtain ⟨v1,v2,v3,d,v4,v5,v6⟩:=h.wy w (hmem w hw)
  refine ⟨v1,v2,v3,d,?_,v5,v6⟩
  have hne:=hd w hw
  rw [List.getElem?_set_ne (by rw [hk] at hne; omega)]
  exact v4
 ·rcases Qv hc hj with ⟨rfl,rfl⟩ | ⟨hne,hj⟩
  ·rw [hl]; omega
  ·exact h.le j d hj
 ·rcases Qv hc hj with ⟨rfl,rfl⟩ | ⟨hne,hj⟩
  ·rcases hs with hs | ⟨hs,hs2,hs3,hs4,_⟩
   ·rw [hs] at hd2; simp at hd2
   ·refine ⟨by rw [hl]; omega,hs3,hs4,fun i x hx => ?_⟩
    rw [htr,g4 i x hx,ht,List.any_append,List.any_append,List.any_cons,List.any_append]
    have a1:(A.any fun u=>decide (u.call_=(j:Int)) && decide (u.try_.Instance=x.Key))=false:=by
     rw [List.any_eq_false]
     intro w hw
     have:=hd w (by simp [hw])
     rw [hk] at this
     simp [this]
    have a2:(B.any fun u=>decide (u.call_=(j:Int)) && decide (u.try_.Instance=x.Key))=false:=by
     rw [List.any_eq_false]
     intro w hw
     have:=hd w (by simp [hw])
     rw [hk] at this
     simp [this]
    rw [a1,a2,hk]
    simp
  ·obtain ⟨e1,e2,e3,e4⟩:=h.go j d hj hd2
   refine ⟨e1,e2,e3,fun i x hx => ?_⟩
   rw [e4 i x hx,List.any_append,List.any_cons,List.any_append]
   have:¬ u.call_=(j:Int):=by rw [hk]; omega
   simp [this]
 ·rcases Qv hc hj with ⟨rfl,rfl⟩ | ⟨hne,hj⟩
  ·rcases hs with hs | ⟨hs,hs2,hs3,hs4,hs5,hs6⟩
   ·rw [hs] at hd2; simp at hd2
   ·refine ⟨fun w hw => ?_,by omega,by rw [hl]; omega⟩
    have:=hd w hw
    rw [hk] at this; exact this
  ·obtain ⟨e1,e2⟩:=h.z j d hj hd2
   exact ⟨fun w hw=>e1 w (hmem w hw),e2⟩
theorem w04 (D:DC s ph ats) {u:qv} (h:DyI s kk again (A++u::B) sent cs sd bench) {k:Nat} (hk:u.call_=(k:Int)) {c:yj} (hc:cs[k]?=some c) :
  ∃ again' sd' bench' c',Wd s ats again sd c (tO s.Instances u)=some (again',sd',c')∧z10 s ats bench c.out_ again u=some (bench',c'.out_,again',if c'.state_=0 then some c'.start_ else none) ∧
   DyI s (kk+1) again' (A++B) sent (cs.set k c') sd' bench'∧c'.state_≠1∧(c'.state_=0→u.try_.Done≤c'.start_):=by
 obtain ⟨w1,w2,w3,c0,w4,w5,w6⟩:=h.wy u (by simp)
 rw [hk,Int.toNat_natCast,hc] at w4
 cases w4
 obtain ⟨g1,g2,g3,g4⟩:=h.go k c hc (.inr w5)
 have hT:=D.tr
 have hle:=h.le k c hc
 have hmu:=h.mu
 have hag:=h.ag
 obtain ⟨i,x,hx,hxk⟩:=z4b.1 w1
 have hix:ixK s.Instances u.try_.Instance=(i:Int):=by rw [← hxk]; exact z13 D.ins.srt hx
 have hkb:InsB s.Instances:=⟨by have:=D.ins.len; omega,fun y hy=>by have:=(y9c (D.ins.key y hy)).1; omega⟩
 obtain ⟨L,r,t,uu,n1,n2,n3,rfl,rfl,hS,b1,b2,b3⟩:=h.st
 obtain ⟨L',r',t',u',m1,m2,m3,q1,q2,q3,q4,q5,q6⟩:=x3j hS (by omega) D.ins.srt hkb D.ol (i:=(i:Int)) (by omega) (x:=x) (by simpa using hx) ⟨u.try_.Done,u.try_.Instance,u.try_.Status⟩ hxk.symm ⟨w3,by show u.try_.Done≤_; omega⟩ n1 n2 n3 (by omega)
 have hst:∃ L r t u n1 n2 n3,qj.mk s.Outliers L'=qj.mk s.Outliers L∧qn.mk s.Instances s.Outliers (m1,r') (m2,t') (m3,u')=qn.mk s.Instances s.Outliers (n1,r) (n2,t) (n3,u)∧SR s.Instances ((kk+1:Nat):Int) L r t u∧n1≤2 * (kk+1)∧n2≤2 * (kk+1)∧n3≤2 * (kk+1):=
  ⟨L',r',t',u',m1,m2,m3,rfl,rfl,by rw [Int.natCast_add]; exact q3,by omega,by omega,by omega⟩
 have hfs:z1q u.try_.Status=some ((decide (u.try_.Status=0)) || (decide (500≤u.try_.Status))):=rfl
 have hfr:z3x u.try_.Status=some ((decide (u.try_.Status=0)) || (decide (500≤u.try_.Status))):=rfl
 have hmay:=x61 s.Budget u.try_.Done D.bd ⟨w3,by omega⟩ ats again D.ats (by omega)
 have hmayR:=x62 s.Budget u.try_.Done D.bd ⟨w3,by omega⟩ ats again D.ats (by omega)
 have hlen:((c.out_.Tries++[u.try_]).length:Int)=(c.out_.Tries.length:Int)+1:=by simp
 have htry:(⟨x.Key,u.try_.Sent,u.try_.Done,u.try_.Status⟩:qc)=u.try_:=by rw [hxk]
 have e0:Wd s ats again ⟨s.Outliers,L⟩ c (tO s.Instances u)=if (!((decide (u.try_.Status=0)) || (decide (500≤u.try_.Status))) || decide (((c.out_.Tries++[u.try_]).length:Int)=s.Tries))=true then some (again,⟨s.Outliers,L'⟩,finC (tryC c u.try_) u.try_.Done u.try_.Status) else
   if (!mayB s.Budget u.try_.Done ats again)=true then some (again,⟨s.Outliers,L'⟩,finC (tryC c u.try_) u.try_.Done u.try_.Status) else
    if again.length≤1000000 then (Qz s.Wait (wr (((c.out_.Tries++[u.try_]).length:Int) - 1)) s.MostWait).bind fun d =>
     some (again++[u.try_.Done],⟨s.Outliers,L'⟩,⟨0,wr (u.try_.Done+d),c.tried_,⟨c.out_.Call,c.out_.Tries++[u.try_],c.out_.Done,c.out_.Status⟩⟩) else none:=by
  unfold Wd tO
  simp only
  rw [hix,vz,hx]
  simp only [Option.bind_some]
  rw [if_pos (by omega),q1]
  simp only [Option.bind_some]
  rw [hfs,hmay]
  simp only [Option.bind_some]
  rw [htry]
 have e1:z10 s ats ⟨s.Instances,s.Outliers,(n1,r),(n2,t),(n3,uu)⟩ c.out_ again u=if (!((decide (u.try_.Status=0)) || (decide (500≤u.try_.Status))) || decide (((c.out_.Tries++[u.try_]).length:Int)=s.Tries))=true then some (⟨s.Instances,s.Outliers,(m1,r'),(m2,t'),(m3,u')⟩,⟨c.out_.Call,c.out_.Tries++[u.try_],u.try_.Done,u.try_.Status⟩,again,none) else
   if (!mayB s.Budget u.try_.Done ats again)=true then some (⟨s.Instances,s.Outliers,(m1,r'),(m2,t'),(m3,u')⟩,⟨c.out_.Call,c.out_.Tries++[u.try_],u.try_.Done,u.try_.Status⟩,again,none) else
    if again.length≤1000000 then (z32 s.Wait s.MostWait (wr (((c.out_.Tries++[u.try_]).length:Int)+1))).bind fun d=>some (⟨s.Instances,s.Outliers,(m1,r'),(m2,t'),(m3,u')⟩,tryO c.out_ u.try_,again++[u.try_.Done],some (wr (u.try_.Done+d))) else none:=by
  unfold z10
  rw [if_pos (by omega),q2]
  simp only [Option.bind_some]
  rw [hfr,hmayR]
  simp only [Option.bind_some]
 rw [e0,e1]
 have hfin:∃ again' sd' bench' c',some (again,qj.mk s.Outliers L',finC (tryC c u.try_) u.try_.Done u.try_.Status)=some (again',sd',c')∧(some (qn.mk s.Instances s.Outliers (m1,r') (m2,t') (m3,u'),yf.mk c.out_.Call (c.out_.Tries++[u.try_]) u.try_.Done u.try_.Status,again,none):Option StD)=some (bench',c'.out_,again',if c'.state_=0 then some c'.start_ else none) ∧
   DyI s (kk+1) again' (A++B) sent (cs.set k c') sd' bench'∧c'.state_≠1∧(c'.state_=0→u.try_.Done≤c'.start_):=by
  refine ⟨_,_,_,finC (tryC c u.try_) u.try_.Done u.try_.Status,rfl,rfl,y7o h hk hc hst (by omega) hT.2 rfl rfl (.inl rfl),?_,?_⟩
  ·show (2:Int)≠1; omega
  ·intro h0
   have h0:(2:Int)=0:=h0
   omega
 by_cases h1:(!((decide (u.try_.Status=0)) || (decide (500≤u.try_.Status))) || decide (((c.out_.Tries++[u.try_]).length:Int)=s.Tries))=true
 ·rw [if_pos h1,if_pos h1]
  exact hfin
 rw [if_neg h1,if_neg h1]
 by_cases h2:(!mayB s.Budget u.try_.Done ats again)=true
 ·rw [if_pos h2,if_pos h2]
  exact hfin
 rw [if_neg h2,if_neg h2,if_pos (by omega),if_pos (by omega)]
 have h3:(c.out_.Tries.length:Int)+1≠s.Tries:=fun he=>h1 (by rw [hlen,decide_eq_true he,Bool.or_true])
 have hmw:=D.mw
 have hwt:=D.wt
 rw [hlen,qy (n:=(c.out_.Tries.length:Int)+1 - 1) (by omega),qy (n:=(c.out_.Tries.length:Int)+1+1) (by omega),w1s s.Wait s.MostWait hwt hmw _ (by omega),w1u s.Wait s.MostWait hwt hmw _ (by omega)]
 simp only [Option.bind_some]
 have eN:((c.out_.Tries.length:Int)+1+1 - 2).toNat=((c.out_.Tries.length:Int)+1 - 1).toNat:=by omega
 rw [eN]
 generalize hN:((c.out_.Tries.length:Int)+1 - 1).toNat=N
 have hbo:0≤bo s.Wait s.MostWait N∧bo s.Wait s.MostWait N≤3600000:=by
  unfold bo
  have h5:(0:Int)≤s.Wait * 2 ^ N:=Int.mul_nonneg hwt.1 (Int.le_of_lt (Int.pow_pos (by omega)))
  omega
 rw [qy (by omega)]
 refine ⟨_,_,_,⟨0,u.try_.Done+bo s.Wait s.MostWait N,c.tried_,⟨c.out_.Call,c.out_.Tries++[u.try_],c.out_.Done,c.out_.Status⟩⟩,rfl,rfl,y7o h hk hc hst (by simp; omega) hT.2 rfl rfl (.inr ⟨rfl,by omega,g2,g3,?_,?_⟩),?_,?_⟩
 ·show u.try_.Done≤u.try_.Done+_; omega
 ·show u.try_.Done+_≤_; omega
 ·show (0:Int)≠1; omega
 ·intro _
  show u.try_.Done≤u.try_.Done+_; omega
theorem x50 (h:DyI s kk again way sent cs sd bench) {k:Nat} {c:yj} (hc:cs[k]?=some c) (h0:c.state_=0) (v st:Int):DyI s (kk+1) again way sent (cs.set k (finC c v st)) sd bench:=by
 have hmu:=z8t cs k c (finC c v st) hc
 have hm:=h.mu
 have hwc:wC (finC c v st)+1≤wC c:=by
  have e1:wC (finC c v st)=0:=rfl
  rw [e1]
  unfold wC
  rw [h0]; simp
 obtain ⟨L,r,t,u,n1,n2,n3,q1,q2,q3,q4,q5,q6⟩:=h.st
 refine ⟨⟨L,r,t,u,n1,n2,n3,q1,q2,q3.mono (by omega),by omega,by omega,by omega⟩,by omega,by have:=h.ag; omega,by have:=h.wl; omega,by rw [List.length_set]; exact h.nl,⟨h.se.1,by have:=h.se.2; omega⟩,h.nb,h.nr,h.dc,fun w hw => ?_,fun j d hj => ?_,fun j d hj hd2 => ?_,fun j d hj hd2 => ?_⟩
 ·obtain ⟨v1,v2,v3,d,v4,v5,v6⟩:=h.wy w hw
  refine ⟨v1,v2,v3,d,?_,v5,v6⟩
  have hne:=(h.z k c hc h0).1 w hw
  rw [List.getElem?_set_ne (by omega)]
  exact v4
 ·rcases Qv hc hj with ⟨rfl,rfl⟩ | ⟨hne,hj⟩
  ·exact h.le j c hc
  ·exact h.le j d hj
 ·rcases Qv hc hj with ⟨rfl,rfl⟩ | ⟨hne,hj⟩
  ·have hd2:(2:Int)=0∨(2:Int)=1:=hd2
   omega
  ·exact h.go j d hj hd2
 ·rcases Qv hc hj with ⟨rfl,rfl⟩ | ⟨hne,hj⟩
  ·have hd2:(2:Int)=0:=hd2
   omega
  ·exact h.z j d hj hd2
theorem x3h (t:List (Int×Bool)) (i j:Int):tsB (ptG t i true) j=(decide (i=j) || tsB t j):=by
 unfold tsB
 rw [x7c]
 by_cases h:i=j
 ·rw [if_pos h]; simp [h]
 ·rw [if_neg h]; simp [h]
theorem x51 (h:DyI s kk again way sent cs sd bench) (hs:Srt s.Instances) {k:Nat} {c:yj} (hc:cs[k]?=some c) (h0:c.state_=0) {i:Nat} {x:zl} (hx:s.Instances[i]?=some x) {e st:Int} (he:c.start_≤e∧e≤c.start_+3600000) :
  DyI s (kk+1) again (way++[⟨(k:Int),sent,⟨x.Key,c.start_,e,st⟩⟩]) (sent+1) (cs.set k ⟨1,c.start_,ptG c.tried_ (i:Int) true,c.out_⟩) sd bench:=by
 have hmu:=z8t cs k c ⟨1,c.start_,ptG c.tried_ (i:Int) true,c.out_⟩ hc
 have hm:=h.mu
 have hwc:wC ⟨1,c.start_,ptG c.tried_ (i:Int) true,c.out_⟩+1≤wC c:=by
  unfold wC
  rw [h0]; simp
 obtain ⟨z1,z2,z3⟩:=h.z k c hc h0
 obtain ⟨g1,g2,g3,g4⟩:=h.go k c hc (.inl h0)
 obtain ⟨L,r,t,u,n1,n2,n3,q1,q2,q3,q4,q5,q6⟩:=h.st
 have hse:=h.se
 refine ⟨⟨L,r,t,u,n1,n2,n3,q1,q2,q3.mono (by omega),by omega,by omega,by omega⟩,by omega,by have:=h.ag; omega,by have:=h.wl; simp; omega,by rw [List.length_set]; exact h.nl,⟨by omega,by omega⟩,fun w hw => ?_,?_,?_,fun w hw => ?_,fun j d hj => ?_,fun j d hj hd2 => ?_,fun j d hj hd2 => ?_⟩
 ·rcases List.mem_append.1 hw with hw | hw
  ·have:=h.nb w hw; omega
  ·simp at hw; subst hw
   show sent < sent+1; omega
 ·refine List.pairwise_append.2 ⟨h.nr,by simp,fun a ha b hb => ?_⟩
  simp at hb; subst hb
  exact h.nb a ha
 ·refine List.pairwise_append.2 ⟨h.dc,by simp,fun a ha b hb => ?_⟩
  simp at hb; subst hb
  exact z1 a ha
 ·rcases List.mem_append.1 hw with hw | hw
  ·obtain ⟨v1,v2,v3,d,v4,v5,v6⟩:=h.wy w hw
   refine ⟨v1,v2,v3,d,?_,v5,v6⟩
   have hne:=z1 w hw
   rw [List.getElem?_set_ne (by omega)]
   exact v4
  ·simp at hw; subst hw
   refine ⟨z4b.2 ⟨i,x,hx,rfl⟩,by show (0:Int)≤(k:Int); omega,by show 0≤e; omega,_,List.getElem?_set_self (wq hc),rfl,?_⟩
   show e≤345686400000+7200000 * (c.out_.Tries.length:Int)+3600000
   omega
 ·rcases Qv hc hj with ⟨rfl,rfl⟩ | ⟨hne,hj⟩
  ·exact h.le j c hc
  ·exact h.le j d hj
 ·rcases Qv hc hj with ⟨rfl,rfl⟩ | ⟨hne,hj⟩
  ·refine ⟨g1,g2,g3,fun q y hy => ?_⟩
   show tsB (ptG c.tried_ (i:Int) true) (q:Int)=_
   rw [x3h,g4 q y hy,List.any_append]
   have a1:(way.any fun u=>decide (u.call_=(j:Int)) && decide (u.try_.Instance=y.Key))=false:=by
    rw [List.any_eq_false]
    intro w hw
    simp [z1 w hw]
   have a2:decide ((i:Int)=(q:Int))=decide (x.Key=y.Key):=by
    refine decide_eq_decide.2 ⟨fun e => ?_,fun e => ?_⟩
    ·have e:i=q:=by omega
     subst e
     rw [hx] at hy; cases hy; rfl
    ·rw [← z13 hs hx,e,z13 hs hy]
   rw [a1,a2]
   simp only [List.any_cons,List.any_nil,decide_true,Bool.true_and,Bool.or_false,Bool.false_or]
   exact Bool.or_comm _ _
  ·obtain ⟨e1,e2,e3,e4⟩:=h.go j d hj hd2
   refine ⟨e1,e2,e3,fun q y hy => ?_⟩
   rw [e4 q y hy,List.any_append]
   have:¬ (k:Int)=(j:Int):=by omega
   simp [this]
 ·rcases Qv hc hj with ⟨rfl,rfl⟩ | ⟨hne,hj⟩
  ·have hd2:(1:Int)=0:=hd2
   omega
  ·obtain ⟨e1,e2⟩:=h.z j d hj hd2
   refine ⟨fun w hw => ?_,e2⟩
   rcases List.mem_append.1 hw with hw | hw
   ·exact e1 w hw
   ·simp at hw; subst hw
    show (k:Int)≠(j:Int); omega
theorem x7n (o:yf) (h:o.Status=0) (hl:o.Tries.length≤1000):∃ st,z6i o.Tries=some st∧y0k o=some st:=by
 unfold z6i y0k
 by_cases hp:0 < o.Tries.length
 ·obtain ⟨x,hx⟩:∃ x,o.Tries[o.Tries.length - 1]?=some x:=⟨_,List.getElem?_eq_getElem (by omega)⟩
  have e:at? o.Tries (wr ((o.Tries.length:Int) - 1))=some x:=by
   rw [qy (by omega),show (o.Tries.length:Int) - 1=((o.Tries.length - 1:Nat):Int) by omega,vz]
   exact hx
  rw [if_pos (by simpa using hp),if_pos (by simpa using hp),e]
  exact ⟨_,rfl,rfl⟩
 ·rw [if_neg (by simpa using hp),if_neg (by simpa using hp),h]
  exact ⟨_,rfl,rfl⟩
theorem x49 (D:DC s ph ats) (h:DyI s kk again way sent cs sd bench) {k:Nat} {c:yj} (hc:cs[k]?=some c) (h0:c.state_=0) :
  (∃ st,We s ph ats again (way.map (tO s.Instances)) sd c (k:Int) c.start_=some (again,way.map (tO s.Instances),sd,finC c c.start_ st)∧Ys s ph bench c.out_ way sent (k:Int) c.start_=some ((finC c c.start_ st).out_,way,sent) ∧
   DyI s (kk+1) again way sent (cs.set k (finC c c.start_ st)) sd bench) ∨
  ∃ (i:Nat) (x:zl) (e st:Int),s.Instances[i]?=some x∧(c.start_≤e∧e≤c.start_+3600000)∧We s ph ats again (way.map (tO s.Instances)) sd c (k:Int) c.start_=uk s ats again (way.map (tO s.Instances)) sd c (k:Int) (i:Int) c.start_ e st ∧
   Ys s ph bench c.out_ way sent (k:Int) c.start_=some (c.out_,way++[⟨(k:Int),sent,⟨x.Key,c.start_,e,st⟩⟩],sent+1) ∧
   DyI s (kk+1) again (way++[⟨(k:Int),sent,⟨x.Key,c.start_,e,st⟩⟩]) (sent+1) (cs.set k ⟨1,c.start_,ptG c.tried_ (i:Int) true,c.out_⟩) sd bench:=by
 obtain ⟨z1,z2,z3⟩:=h.z k c hc h0
 obtain ⟨g1,g2,g3,g4⟩:=h.go k c hc (.inl h0)
 have hle:=h.le k c hc
 have hmu:=h.mu
 have hwl:=h.wl
 have hse:=h.se
 have hT:=D.tr
 have htm:=D.tm
 have hlen:=D.ins.len
 obtain ⟨L,r,t,u,n1,n2,n3,q1,q2,hS,b1,b2,b3⟩:=h.st
 have htr:∀ (i:Nat) x,s.Instances[i]?=some x→tsB c.tried_ (i:Int)=c.out_.Tries.any fun y=>decide (y.Instance=x.Key):=fun i x hx=>by
  have a1:(way.any fun u=>decide (u.call_=(k:Int)) && decide (u.try_.Instance=x.Key))=false:=by
   rw [List.any_eq_false]
   intro w hw
   simp [z1 w hw]
  rw [g4 i x hx,a1,Bool.or_false]
 obtain ⟨i,hi,hat⟩:=w1k D.ins hS (o:=s.Outliers) (fun w hw=>(h.wy w hw).1) (by omega) htr c.start_
 have hus:z3n s bench c.out_.Tries c.start_=some (usF u c.out_.Tries c.start_ s.Instances):=by
  rw [q2]
  exact x1v rfl (by omega) (fun y hy=>by have:=(y9c (D.ins.key y hy)).1; omega) (by omega) _
 have hul:=x1x u c.out_.Tries c.start_ s.Instances
 have e1:We s ph ats again (way.map (tO s.Instances)) sd c (k:Int) c.start_=if decide (i < 0)=true then (z6i c.out_.Tries).bind fun st=>some (again,way.map (tO s.Instances),sd,finC c c.start_ st) else
   (z3p ⟨s,ph,[],[],none,[],[]⟩ i c.start_).bind fun x=>if (x.2 && decide (x.1.Took≤s.Timeout))=true then uk s ats again (way.map (tO s.Instances)) sd c (k:Int) i c.start_ (wr (c.start_+x.1.Took)) x.1.Status else uk s ats again (way.map (tO s.Instances)) sd c (k:Int) i c.start_ (wr (c.start_+s.Timeout)) 0:=by
  unfold We
  rw [q1,hi]
  rfl
 rw [e1]
 unfold Ys
 rw [hus]
 simp only [Option.bind_some]
 by_cases hF:usF u c.out_.Tries c.start_ s.Instances=[]
 ·left
  rw [hF] at hat ⊢
  have hat:i=-1:=hat
  obtain ⟨st,l1,l2⟩:=x7n c.out_ g3 (by omega)
  refine ⟨st,?_,?_,x50 h hc h0 _ _⟩
  ·rw [hat,if_pos (by simp),l1]; rfl
  ·rw [if_pos (by simp),l2]; rfl
 ·right
  have hp:=List.length_pos_iff.2 hF
  have hwgt:∀ x,x∈usF u c.out_.Tries c.start_ s.Instances→1≤x.Weight∧x.Weight≤100:=fun x hx=>D.ins.wgt x (x1w hx)
  obtain ⟨best,hb,y,y1,y2,rfl⟩:=x7k (loads:=(usF u c.out_.Tries c.start_ s.Instances).map fun y=>⟨y.Key,ldW way y.Key⟩) (ldW way) hwgt (fun x hx=>by
   rw [x7b _ _ (by rw [List.length_map]; omega),y82 (ldW way) _ x hx]) (z7e (by omega)) hF (by omega)
  rw [y2] at hat
  obtain ⟨j,rfl,hj⟩:=hat
  have hS2:forL (Qw s y.Key c.start_) z52 0 ph (wr (c.start_+s.Timeout),0)=some (((ph.filter (phM y.Key c.start_)).foldl (fun t x=>if x.Took≤s.Timeout then (wr (c.start_+x.Took),x.Status) else t) (wr (c.start_+s.Timeout),0))):=z9j s y.Key c.start_ ph 0 _
  have hphl:=D.phl
  rw [if_neg (by simp),if_neg (by simp; omega),if_pos ⟨by omega,by omega,by omega⟩,x7a (by omega) (by omega)]
  simp only [Option.bind_some]
  rw [hb]
  simp only [Option.bind_some]
  rw [hS2]
  simp only [Option.bind_some]
  rw [qy (n:=sent+1) (by omega),qy (n:=c.start_+s.Timeout) (by omega)]
  generalize hG:(fun (x:zz×Bool)=>if (x.2 && decide (x.1.Took≤s.Timeout))=true then uk s ats again (way.map (tO s.Instances)) sd c (k:Int) (j:Int) c.start_ (wr (c.start_+x.1.Took)) x.1.Status else uk s ats again (way.map (tO s.Instances)) sd c (k:Int) (j:Int) c.start_ (c.start_+s.Timeout) 0)=G
  have hbe:=w1t s hphl hj c.start_
  have hmain:∀ (e st:Int),(c.start_≤e∧e≤c.start_+3600000)→∃ (i':Nat) (x:zl) (e' st':Int),s.Instances[i']?=some x∧(c.start_≤e'∧e'≤c.start_+3600000)∧uk s ats again (way.map (tO s.Instances)) sd c (k:Int) (j:Int) c.start_ e st=uk s ats again (way.map (tO s.Instances)) sd c (k:Int) (i':Int) c.start_ e' st' ∧
   (some (c.out_,way++[⟨(k:Int),sent,⟨y.Key,c.start_,e,st⟩⟩],sent+1):Option StS)=some (c.out_,way++[⟨(k:Int),sent,⟨x.Key,c.start_,e',st'⟩⟩],sent+1) ∧
   DyI s (kk+1) again (way++[⟨(k:Int),sent,⟨x.Key,c.start_,e',st'⟩⟩]) (sent+1) (cs.set k ⟨1,c.start_,ptG c.tried_ (i':Int) true,c.out_⟩) sd bench:=
   fun e st he=>⟨j,y,e,st,hj,he,rfl,rfl,x51 h D.ins.srt hc h0 hj he⟩
  rcases x6f D.pf y.Key c.start_ with he | ⟨p,hpm,he⟩
  ·rw [he] at hbe ⊢
   rw [hbe]
   have hGf:G (⟨[],⟨0,0⟩,0,0⟩,false)=uk s ats again (way.map (tO s.Instances)) sd c (k:Int) (j:Int) c.start_ (c.start_+s.Timeout) 0:=by rw [← hG]; rfl
   show ∃ i x e st,s.Instances[i]?=some x∧_∧G (⟨[],⟨0,0⟩,0,0⟩,false)=_∧_
   rw [hGf]
   exact hmain _ _ (by omega)
  ·obtain ⟨pi,hpi⟩:=List.getElem?_of_mem hpm
   have hpb:=(z9k D.pf hpi).1.k
   rw [he] at hbe ⊢
   rw [hbe]
   have hGt:G (p,true)=if p.Took≤s.Timeout then uk s ats again (way.map (tO s.Instances)) sd c (k:Int) (j:Int) c.start_ (wr (c.start_+p.Took)) p.Status else uk s ats again (way.map (tO s.Instances)) sd c (k:Int) (j:Int) c.start_ (c.start_+s.Timeout) 0:=by
    rw [← hG]
    show (if (true && decide (p.Took≤s.Timeout))=true then _ else _)=_
    by_cases ht:p.Took≤s.Timeout
    ·rw [decide_eq_true ht]; simp [ht]
    ·rw [decide_eq_false ht]; simp [ht]
   show ∃ i x e st,s.Instances[i]?=some x∧_∧G (p,true)=_∧_
   rw [hGt]
   simp only [List.foldl_cons,List.foldl_nil]
   by_cases ht:p.Took≤s.Timeout
   ·rw [if_pos ht,if_pos ht,qy (by omega)]
    exact hmain _ _ (by omega)
   ·rw [if_neg ht,if_neg ht]
    exact hmain _ _ (by omega)
end
section
variable {α:Type} {p:α→α→Option Int}
def adjS (p:α→α→Option Int):List α→Prop
 | x::y::l=>(∃ c,p y x=some c∧¬ c < 0)∧adjS p (y::l)
 | _=>True
theorem x1h:∀ (A:List α) (y x:α) (B:List α),adjS p (A++y::x::B)→∃ c,p x y=some c∧¬ c < 0
 | [],y,x,B,h=>h.1
 | [a],y,x,B,h=>h.2.1
 | a::b::A,y,x,B,h=>x1h (b::A) y x B h.2
theorem y9x (m:Nat):∀ (rest A:List α) (y:α),A.length+1+rest.length=m→m≤1000000→adjS p (A++y::rest) →
  iter (fun (s:Int×List α)=>gL1 0 (m:Int) p s.1 s.2) (((A.length+1:Nat):Int),A++y::rest)=some (A++y::rest)
 | [],A,y,hm,_,had=>by
  refine Wg ?_
  unfold gL1; rw [if_neg (by simp at hm; simp; omega)]
 | x::rest,A,y,hm,hb,had=>by
  simp only [List.length_cons] at hm
  obtain ⟨c,h1,h2⟩:=x1h A y x rest had
  have hw:wr (((A.length+1:Nat):Int)+1)=((A.length+1+1:Nat):Int):=x1r (by omega)
  have hst:=w0n (p:=p) ((A.length+1:Nat):Int) A rest y x (by omega) h1 h2
  have hlt:decide (((A.length+1:Nat):Int) < (m:Int))=true:=by simp; omega
  have ih:=y9x m rest (A++[y]) x (by simp; omega) hb (by simpa using had)
  have e:(A++[y])++x::rest=A++y::x::rest:=by simp
  rw [e,show (A++[y]).length+1=A.length+1+1 by simp,← hw] at ih
  refine (Yw (s':=(wr (((A.length+1:Nat):Int)+1),A++y::x::rest)) ?_).trans ih
  unfold gL1
  rw [if_pos hlt]
  exact Wg hst
theorem w0o (l:List α) (h:l.length≤1000000) (had:adjS p l):gIns l 0 (l.length:Int) p=some l:=by
 have hw:wr ((0:Int)+1)=1:=by decide
 unfold gIns
 rw [hw]
 cases l with
 | nil=>refine Wg ?_; unfold gL1; rw [if_neg (by simp)]
 | cons x l=>exact y9x (x::l).length l [] x (by simp; omega) h had
end
end Go.Proofs.YtgdijjmdfcgifaaGreat
