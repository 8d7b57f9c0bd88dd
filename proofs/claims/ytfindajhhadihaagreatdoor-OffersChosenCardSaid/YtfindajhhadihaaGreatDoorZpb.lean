/- Plain: the law OffersChosen is true for every list of numbers. -/
import Derived.Test.YtfindajhhadihaaGreatDoorZpdZp
import Derived.Test.YtfindajhhadihaaGreatDoorCkZp
namespace Go.Proofs.YtfindajhhadihaaGreatDoor
set_option linter.unusedVariables false
set_option maxRecDepth 20000
def wrdB (s:Bs):Bool:=tokB (Lib.cut s [47]).1 && (!(Lib.cut s [47]).2.2 || tokB (Lib.cut s [47]).2.1)
theorem y5e (s:Bs) (h:s.length≤1000000):z0o s=some (wrdB s):=by
 have hc:=z3t s 47
 unfold z0o xk vy wrdB
 rw [if_pos (by omega)]
 simp only [Option.bind_some]
 rw [z5q _ (by omega),z5q _ (by omega)]
 simp only [Option.bind_some]
 cases tokB (Lib.cut s [47]).1 <;> cases (Lib.cut s [47]).2.2 <;> simp
theorem z6k (s:Bs) (h:s.length≤1000000):Qg s=some (wrdB s):=by
 have hc:=z3t s 47
 unfold Qg Zl vy wrdB
 rw [if_pos (by omega)]
 simp only [Option.bind_some]
 rw [Yd _ (by omega),Yd _ (by omega)]
 simp only [Option.bind_some]
 cases tokB (Lib.cut s [47]).1 <;> cases (Lib.cut s [47]).2.2 <;> simp
theorem z1y {s:Bs} (h:s.all (fun c=>tokL.contains c)=true):(47:UInt8) ∉ s:=fun hm=>by
 have:=List.all_eq_true.1 h 47 hm
 exact absurd this (by decide)
theorem z6v (cs p t:Bs) (h:∀ c,c∈p→cs.contains c=false):up cs (p++t)=p++up cs t∧dn cs (p++t)=dn cs t:=by
 induction p with
 | nil=>exact ⟨rfl,rfl⟩
 | cons c l ih =>
  have h1:=ih fun x hx=>h x (List.mem_cons_of_mem _ hx)
  have h2:=h c (by simp)
  unfold up dn at *
  rw [List.cons_append,List.takeWhile_cons,List.dropWhile_cons,h2]
  simp only [Bool.not_false,if_true]
  exact ⟨by rw [h1.1]; rfl,h1.2⟩
theorem z6u (cs:Bs) (c:UInt8) (t:Bs):(cs.contains c=true→up cs (c::t)=[]∧dn cs (c::t)=c::t)∧(cs.contains c=false→up cs (c::t)=c::up cs t∧dn cs (c::t)=dn cs t):=by
 unfold up dn
 rw [List.takeWhile_cons,List.dropWhile_cons]
 constructor
 ·intro h; rw [h]; exact ⟨rfl,rfl⟩
 ·intro h; rw [h]; exact ⟨rfl,rfl⟩
theorem z65 (t:Bs):∀ c,c∈tk t→csI.contains c=false:=fun c hc=>by
 have:=List.all_eq_true.1 (ks t) c hc
 cases h:csI.contains c
 ·rfl
 ·rw [z50 c h] at this; cases this
def pwS (t:Bs):Bs×Bs×Bool:=
 if (td t).head?=some 47 then (tk t++47::tk (td t).tail,td (td t).tail,!tokB (tk t) || !tokB (tk (td t).tail)) else (tk t,td t,!tokB (tk t))
theorem z6h {p:Bs} (h:p.all (fun c=>tokL.contains c)=true):wrdB p=tokB p:=by
 unfold wrdB
 rw [z9t 47 p (z1y h)]
 simp
theorem z3y {p:Bs} (q:Bs) (h:p.all (fun c=>tokL.contains c)=true):wrdB (p++47::q)=(tokB p && tokB q):=by
 unfold wrdB
 rw [z9u 47 p q (z1y h)]
 simp
theorem z38 {p:Bs} (d:UInt8) (q:Bs) (hd:tokL.contains d=false):tokB (p++d::q)=false:=by
 unfold tokB
 have:(p++d::q).all (fun c=>tokL.contains c)=false:=by
  rw [List.all_append,List.all_cons,hd]; simp
 rw [this]; rfl
theorem y0c (t:Bs):(wrdB (up csI t)=true∧pwS t=(up csI t,dn csI t,false))∨(wrdB (up csI t)=false∧((pwS t).2.2=true∨∃ d r,(pwS t).2.1=d::r∧csI.contains d=false)):=by
 have e:=Wt t
 have ha:=z6v csI (tk t) (td t) (z65 t)
 rw [e] at ha
 unfold pwS
 cases hd:td t with
 | nil =>
  rw [hd] at ha
  have h1:up csI t=tk t:=by rw [ha.1]; simp [up]
  have h2:dn csI t=[]:=ha.2
  rw [h1,h2,z6h (ks t)]
  cases hb:tokB (tk t)
  ·right; exact ⟨rfl,.inl (by simp)⟩
  ·left; simp
 | cons d r =>
  have hdt:=z39 t hd
  rw [hd] at ha
  have hc:=z6u csI d r
  cases hcd:csI.contains d
  ·by_cases h47:d=47
   ·subst h47
    simp only [List.head?_cons,if_true,List.tail_cons]
    have e2:=Wt r
    have ha2:=z6v csI (tk r) (td r) (z65 r)
    rw [e2] at ha2
    have hh:=hc.2 hcd
    rw [ha.1,ha.2,hh.1,hh.2,ha2.1,ha2.2]
    cases hd2:td r with
    | nil =>
     rw [show up csI []=[] from rfl,show dn csI []=[] from rfl,List.append_nil,z3y _ (ks t)]
     cases tokB (tk t) <;> cases tokB (tk r) <;> simp
    | cons f r2 =>
     have hft:=z39 r hd2
     have hc2:=z6u csI f r2
     cases hcf:csI.contains f
     ·rw [(hc2.2 hcf).1]
      right
      refine ⟨?_,.inr ⟨f,r2,rfl,hcf⟩⟩
      rw [z3y _ (ks t),z38 f _ hft,Bool.and_false]
     ·rw [(hc2.1 hcf).1,(hc2.1 hcf).2,List.append_nil,z3y _ (ks t)]
      cases tokB (tk t) <;> cases tokB (tk r) <;> simp
   ·rw [if_neg (by simpa using h47)]
    right
    refine ⟨?_,.inr ⟨d,r,rfl,hcd⟩⟩
    have hh:=hc.2 hcd
    rw [ha.1,hh.1]
    rcases z9l 47 (up csI r) with hn | ⟨p,q,hpq,hp⟩
    ·have:(47:UInt8) ∉ tk t++d::up csI r:=by
      intro hm
      rcases List.mem_append.1 hm with h | h
      ·exact z1y (ks t) h
      ·rcases List.mem_cons.1 h with h | h
       ·exact h47 h.symm
       ·exact hn h
     unfold wrdB
     rw [z9t 47 _ this]
     simp [z38 d _ hdt]
    ·rw [hpq]
     have:(47:UInt8) ∉ tk t++d::p:=by
      intro hm
      rcases List.mem_append.1 hm with h | h
      ·exact z1y (ks t) h
      ·rcases List.mem_cons.1 h with h | h
       ·exact h47 h.symm
       ·exact hp h
     unfold wrdB
     rw [show tk t++d::(p++47::q)=(tk t++d::p)++47::q from by simp,z9u 47 _ q this]
     simp [z38 d _ hdt]
  ·have h47:¬ d=47:=fun e=>by subst e; exact absurd hcd (by decide)
   rw [if_neg (by simpa using h47)]
   have hh:=hc.1 hcd
   rw [ha.1,ha.2,hh.1,hh.2,List.append_nil,z6h (ks t)]
   cases hb:tokB (tk t)
   ·right; exact ⟨rfl,.inl (by simp)⟩
   ·left; simp
theorem z7v (t:Bs):(pwS t).2.1 <:+ t∧(pwS t).1.length≤t.length:=by
 unfold pwS
 have e:=congrArg List.length (Wt t)
 rw [List.length_append] at e
 split
 ·rename_i h
  refine ⟨((ux _).trans (List.tail_suffix _)).trans (ux t),?_⟩
  have h2:=Wu (td t).tail
  cases hd:td t with
  | nil=>rw [hd] at h; cases h
  | cons c r =>
   rw [hd] at e h2
   simp only [List.tail_cons,List.length_cons,List.length_append] at e h2 ⊢
   omega
 ·exact ⟨ux t,Wu t⟩
theorem y5d {s t:Bs} (hs:s.length≤1000000) (h:t <:+ s):Qc (zk.mk s (pS s t) false)=xj s (pS s (pwS t).2.1) (pwS t).2.2 (pwS t).1:=by
 have hl:=qi h
 have htd:td t <:+ s:=(ux t).trans h
 have hps:=z7v t
 unfold Qc
 rw [Ze hs false h]
 simp only [Option.bind_some,Bool.false_or]
 rw [jq hs _ htd 47 47 rfl]
 simp only [Option.bind_some]
 unfold pwS at hps ⊢
 by_cases h2:(td t).head?=some 47
 ·rw [if_pos h2] at hps ⊢
  rw [decide_eq_true h2,if_pos rfl,show ifh 47 (td t)=(td t).tail from if_pos h2]
  have htl:(td t).tail <:+ s:=(List.tail_suffix _).trans htd
  rw [Ze hs _ htl]
  simp only [Option.bind_some]
  have hp2:=hps.2
  simp only [List.length_append,List.length_cons] at hp2
  rw [if_pos (by simp; omega),if_pos (by simp; omega)]
  rfl
 ·rw [if_neg h2]
  rw [decide_eq_false h2,show ifh 47 (td t)=td t from if_neg h2]
  simp
noncomputable abbrev pB (words:Bs):=fun (q:Bool×(List yg)×Bs×Int×Bool×Int)=>ky words q.1 q.2.1 q.2.2.1 q.2.2.2.1 q.2.2.2.2.1 q.2.2.2.2.2
noncomputable abbrev rB:=fun (q:(List yg)×Bs×Bs×Int×Bool)=>Qw q.1 q.2.1 q.2.2.1 q.2.2.2.1 q.2.2.2.2
theorem z4j (words s:Bs) (told:Bool) (l:List yg) (i q:Int):iter (pB words) (told,l,s,i,true,q)=some (zj.mk words l q,zk.mk s i true):=qa (body:=pB words) rfl
theorem z4i {s t:Bs} (hs:s.length≤1000000) (h:t <:+ s) (words:Bs) (told:Bool) (l:List yg) (q:Int) (hn:t.head?≠some 59):iter (pB words) (told,l,s,pS s t,false,q)=some (zj.mk words l q,zk.mk s (pS s t) false):=by
 refine qa (body:=pB words) ?_
 show ky words told l s (pS s t) false q=_
 unfold ky
 rw [jq hs false h 59 59 rfl]
 simp only [Bool.not_false,if_true,Option.bind_some]
 rw [decide_eq_false hn,show ifh 59 t=t from if_neg hn]
 rfl
theorem y5l {s r1:Bs} (hs:s.length≤1000000) (h:59::r1 <:+ s) (words:Bs) (told:Bool) (l:List yg) (q:Int):pB words (told,l,s,pS s (59::r1),false,q)=ka words told l q true s (pS s r1) false:=by
 show ky words told l s (pS s (59::r1)) false q=_
 unfold ky
 rw [jq hs false h 59 59 rfl]
 simp [ifh]
theorem y2x {s:Bs} (hs:s.length≤1000000) (ha:ascB s=true) (words:Bs):∀ (n:Nat) (t0:Bs) (l:List yg) (q:Int) (told:Bool),t0.length≤n→t0 <:+ s→l.length+t0.length≤10000000 →
  ∃ it it' rb b t t',iter (pB words) (told,l,s,pS s (trL 32 t0),false,q)=some (it,zk.mk s (pS s t) b)∧iter rB (l,t0,words,q,told)=some (it',rb,zx.mk t')∧t <:+ t0 ∧
   ((rb=true∧b=false∧it'=it∧t'=t∧it.Words=words)∨(rb=false∧(b=true∨∃ d r,t=d::r∧csI.contains d=false))):=by
 intro n
 induction n using Nat.strongRecOn with
 | _ n ih =>
  intro t0 l q told hn h hl
  have hT0:=wb 32 t0
  have hT:=hT0.trans h
  have hlen:=qi h
  have hTl:=qi hT0
  have hR:rB (l,t0,words,q,told)=if (trL 32 t0).head?=some 59 then ((sub? (trL 32 t0) 1 ((trL 32 t0).length:Int)).bind fun (l18:Bs)=>(uf (zx.mk l18) (zj.mk words l q) told).bind fun (r20:(Bool×zx×zj×Bool))=>if !r20.1 then (some (.inr (r20.2.2.1,false,r20.2.1))) else (some (.inl (r20.2.2.1.Params,r20.2.1.s_,r20.2.2.1.Words,r20.2.2.1.Quality,r20.2.2.2)))) else some (.inr (zj.mk words l q,true,zx.mk (trL 32 t0))):=by
   show Qw l t0 words q told=_
   unfold Qw
   rw [un t0 (by omega)]
   simp only [Option.bind_some]
   rw [hp1 59]
   simp only [Option.bind_some]
   by_cases h9:(trL 32 t0).head?=some 59
   ·rw [decide_eq_true h9,if_pos h9]; rfl
   ·rw [decide_eq_false h9,if_neg h9]; rfl
  by_cases h9:(trL 32 t0).head?=some 59
  ·rw [if_pos h9,Wv _ 59 h9] at hR
   simp only [Option.bind_some] at hR
   obtain ⟨r1,hr1⟩:∃ r1,trL 32 t0=59::r1:=by
    cases hh:trL 32 t0 with
    | nil=>rw [hh] at h9; cases h9
    | cons c r=>rw [hh] at h9; simp at h9; exact ⟨r,by rw [h9]⟩
   rw [hr1] at hT hT0 hR hTl ⊢
   simp only [List.tail_cons] at hR
   simp only [List.length_cons] at hTl
   have hr:r1 <:+ s:=kt hT
   have hr0:r1 <:+ t0:=(List.suffix_cons _ _).trans hT0
   have hP:=y5l hs hT words told l q
   cases hps:parS (trL 32 r1) with
   | none =>
    obtain ⟨a,b,c,d,e,f1,f2,f3,f4⟩:=y5b hs hr words told l q (by omega) hps
    rw [f3] at hP
    obtain ⟨rd,x',b',g⟩:=y2z r1 (zj.mk words l q) told (Zz ha hr) (by omega) hps
    rw [g] at hR
    simp only [Option.bind_some] at hR
    have hRo:=qa (body:=rB) hR
    have hc:c <:+ s:=f1.trans hr
    refine ⟨zj.mk words b e,x',false,d,c,rd.s_,?_,hRo,f1.trans hr0,.inr ⟨rfl,f4⟩⟩
    refine (qj (body:=pB words) hP).trans ?_
    cases d with
    | true=>exact z4j words s a b (pS s c) e
    | false =>
     rcases f4 with f4 | ⟨x,y,f4,f5⟩
     ·cases f4
     ·refine z4i hs hc words a b e fun h => ?_
      rw [f4] at h
      have:x=59:=by simpa using h
      subst this
      exact absurd f5 (by decide)
   | some p =>
    obtain ⟨nm,v,qt,rest⟩:=p
    have hsf:=y20 _ hps
    have h32:=wb 32 r1
    have hrest:rest <:+ r1:=hsf.1.trans h32
    have hrl:=qi hrest
    have hvl:v.length≤1000000:=by have:=qi (h32.trans hr); omega
    obtain ⟨qv,q1,q2⟩:=z4r v hvl
    have hj:=y5a hs hr words told l q (by omega) hps qv q1
    rw [hj] at hP
    have hg:=y2y r1 (zj.mk words l q) told (Zz ha hr) (by omega) (by simp only; omega) hps qv q2
    rw [hg] at hR
    simp only [Option.bind_some] at hR
    cases hqn:qsN nm
    ·rw [hqn] at hP hR
     simp only [Bool.false_eq_true,if_false] at hP
     simp only [Bool.false_eq_true,if_false,Bool.not_true] at hR
     obtain ⟨it,it',rb,b,t,t',k1,k2,k3,k4⟩:=ih rest.length (by omega) rest (l++[yg.mk nm v]) q told (Nat.le_refl _) (hrest.trans hr) (by simp; omega)
     exact ⟨it,it',rb,b,t,t',(qj (body:=pB words) hP).trans k1,(qj (body:=rB) hR).trans k2,(k3.trans hrest).trans hr0,k4⟩
    ·rw [hqn] at hP hR
     simp only [if_true] at hP
     simp only [if_true] at hR
     cases hok:(qv.2 && (!told)) && (!qt)
     ·have hb:((told || qt) || (!qv.2))=true:=by
       cases told <;> cases qt <;> cases h5:qv.2 <;> simp [h5] at hok ⊢
      rw [hb] at hP
      rw [hok] at hR
      simp only [Bool.not_false,if_true] at hR
      exact ⟨_,_,false,true,trL 32 rest,_,(qj (body:=pB words) hP).trans (z4j _ _ _ _ _ _),qa (body:=rB) hR,((wb 32 rest).trans hrest).trans hr0,.inr ⟨rfl,.inl rfl⟩⟩
     ·have hb:((told || qt) || (!qv.2))=false:=by
       cases told <;> cases qt <;> cases h5:qv.2 <;> simp [h5] at hok ⊢
      rw [hb] at hP
      rw [hok] at hR
      simp only [Bool.not_true,Bool.false_eq_true,if_false] at hR
      obtain ⟨it,it',rb,b,t,t',k1,k2,k3,k4⟩:=ih rest.length (by omega) rest l qv.1 true (Nat.le_refl _) (hrest.trans hr) (by omega)
      exact ⟨it,it',rb,b,t,t',(qj (body:=pB words) hP).trans k1,(qj (body:=rB) hR).trans k2,(k3.trans hrest).trans hr0,k4⟩
  ·rw [if_neg h9] at hR
   exact ⟨_,_,true,false,trL 32 t0,_,z4i hs hT words told l q h9,qa (body:=rB) hR,hT0,.inl ⟨rfl,rfl,rfl,rfl,rfl⟩⟩
def wOK (x:zj):Prop:=ascB x.Words=true∧x.Words.length≤1000000
theorem y5c {s t:Bs} (hs:s.length≤1000000) (ha:ascB s=true) (h:t <:+ s) :
  ∃ it it' rb b t1 t',Qc (zk.mk s (pS s t) false)=some (it,zk.mk s (pS s t1) b)∧z0u (zx.mk t)=some (it',rb,zx.mk t')∧t1 <:+ t ∧
   ((rb=true∧b=false∧it'=it∧t'=t1∧t1.length < t.length∧wOK it)∨(rb=false∧(b=true∨∃ d r,t1=d::r∧csI.contains d=false))):=by
 have hl:=qi h
 have hta:=Zz ha h
 rw [y5d hs h]
 have hpw:=z7v t
 have hsp:(pwS t).2.1 <:+ s:=hpw.1.trans h
 have hU:jf (zx.mk t) [44,59,32]=some (up csI t,zx.mk (dn csI t)):=Wq t csI hta (by omega) (by decide) (by decide)
 have hul:=uq csI t
 unfold z0u xj
 rw [hU,xb hs _ hsp]
 simp only [Option.bind_some]
 rw [z6k _ (by omega)]
 simp only [Option.bind_some]
 rcases y0c t with ⟨w1,w2⟩ | ⟨w1,w2⟩
 ·rw [w1,w2]
  simp only [Bool.not_true,Bool.false_eq_true,if_false]
  have hds:=Zx csI t
  have hdl:=qi hds
  obtain ⟨it,it',rb,b,t1,t',k1,k2,k3,k4⟩:=y2x hs ha (up csI t) (dn csI t).length (dn csI t) [] 1000 false (Nat.le_refl _) (hds.trans h) (by simp; omega)
  refine ⟨it,it',rb,b,t1,t',k1,k2,k3.trans hds,?_⟩
  rcases k4 with ⟨a1,a2,a3,a4,a5⟩ | k4
  ·refine .inl ⟨a1,a2,a3,a4,?_,?_⟩
   ·have hne:up csI t≠[]:=by
     intro e; rw [e] at w1; exact absurd w1 (by decide)
    have e:=congrArg List.length (z6t csI t)
    rw [List.length_append] at e
    have h2:=qi k3
    have:1≤(up csI t).length:=by
     cases hh:up csI t with
     | nil=>exact absurd hh hne
     | cons a b=>simp
    omega
   ·unfold wOK
    rw [a5]
    exact ⟨z92 hta y0i,by omega⟩
  ·exact .inr k4
 ·rw [w1]
  simp only [Bool.not_false,if_true]
  cases hb:(pwS t).2.2
  ·rw [hb] at w2
   rcases w2 with w2 | ⟨d,r,w2,w3⟩
   ·cases w2
   ·have e1:trL 32 (pwS t).2.1=(pwS t).2.1:=by
     refine z35 32 _ fun hh => ?_
     rw [w2] at hh
     have:d=32:=by simpa using hh
     subst this
     exact absurd w3 (by decide)
    rw [e1]
    refine ⟨_,_,false,false,(pwS t).2.1,_,z4i hs hsp _ false [] 1000 (fun hh => ?_),rfl,hpw.1,.inr ⟨rfl,.inr ⟨d,r,w2,w3⟩⟩⟩
    rw [w2] at hh
    have:d=59:=by simpa using hh
    subst this
    exact absurd w3 (by decide)
  ·exact ⟨_,_,false,true,trL 32 (pwS t).2.1,_,z4j _ _ _ _ _ _,rfl,(wb 32 _).trans hpw.1,.inr ⟨rfl,.inl rfl⟩⟩
noncomputable abbrev lP (s:Bs):=fun (q:Bs×Int×Bool×(List zj))=>jd s q.1 q.2.1 q.2.2.1 q.2.2.2
noncomputable abbrev lR:=fun (q:Bs×(List zj))=>jj q.1 q.2
theorem y5s (s:Bs) (out:List zj) (i:Int) (h:out.length≤1000000000) (hw:∀ x,x∈out→wOK x):∃ r,xo out s i false=some r∧We out=some r∧r.1.length≤50∧∀ x,x∈r.1→wOK x:=by
 have hg:Qa out (fun (a0:zj)=>z0q a0)=some (out.any fun x=>decide (100 < (x.Params.length:Int))):=z9e out (fun x=>decide (100 < (x.Params.length:Int))) h fun x hx=>rfl
 have hg':Qa out (fun (a0:zj)=>z0w a0)=some (out.any fun x=>decide (100 < (x.Params.length:Int))):=z9e out (fun x=>decide (100 < (x.Params.length:Int))) h fun x hx=>rfl
 unfold xo Yv We Wd
 rw [hg,hg']
 simp only [Bool.false_eq_true,if_false,Option.bind_some,if_true]
 by_cases h50:(50:Int) < (out.length:Int)
 ·rw [if_pos (by simpa using h50)]
  exact ⟨_,rfl,rfl,by simp,fun x hx=>by cases hx⟩
 ·rw [if_neg (by simpa using h50)]
  cases out.any fun x=>decide (100 < (x.Params.length:Int))
  ·exact ⟨_,rfl,rfl,by simp only; omega,hw⟩
  ·exact ⟨_,rfl,rfl,by simp,fun x hx=>by cases hx⟩
theorem z22 (s:Bs) (i:Int) (out:List zj):iter (lP s) (s,i,true,out)=some ([],9):=qa (body:=lP s) (by
 show jd s s i true out=_
 unfold jd xo
 simp)
theorem y3h {s:Bs} (hs:s.length≤1000000) (ha:ascB s=true):∀ (n:Nat) (t:Bs) (out:List zj),t.length≤n→t <:+ s→out.length+t.length≤10000000→(∀ x,x∈out→wOK x) →
  ∃ r,iter (lP s) (s,pS s t,false,out)=some r∧iter lR (t,out)=some r∧r.1.length≤50∧∀ x,x∈r.1→wOK x:=by
 intro n
 induction n using Nat.strongRecOn with
 | _ n ih =>
  intro t out hn h hl hw
  have hlen:=qi h
  have nine:([]:List zj).length≤50∧∀ x,x∈([]:List zj)→wOK x:=⟨by simp,fun x hx=>by cases hx⟩
  match t,hn,h,hl,hlen with
  | [],hn,h,hl,hlen =>
   obtain ⟨r,r1,r2,r3⟩:=y5s s out (pS s []) (by simp at hl; omega) hw
   refine ⟨r,qa (body:=lP s) ?_,qa (body:=lR) ?_,r3⟩
   ·show jd s s (pS s []) false out=_
    unfold jd
    rw [vu h,r1]; simp
   ·show jj [] out=_
    unfold jj
    rw [r2]; simp
  | c::r,hn,h,hl,hlen =>
   simp only [List.length_cons] at hn hl hlen
   have hr:r <:+ s:=kt h
   have hrl:=qi (wb 32 r)
   by_cases hc:c=44
   ·subst hc
    have hP:lP s (s,pS s (44::r),false,out)=some (.inl (s,pS s (trL 32 r),false,out)):=by
     show jd s s (pS s (44::r)) false out=_
     unfold jd vw
     rw [vu h,jq hs false h 44 44 rfl]
     simp only [Option.bind_some]
     rw [show ifh 44 (44::r)=r from rfl,xb hs false hr]
     simp
    have hR:lR (44::r,out)=some (.inl (trL 32 r,out)):=by
     show jj (44::r) out=_
     unfold jj jr
     simp only [List.getElem?_cons_zero,Option.bind_some,Ww]
     rw [un r (by omega)]
     simp
    obtain ⟨q,q1,q2,q3⟩:=ih (trL 32 r).length (by omega) (trL 32 r) out (Nat.le_refl _) ((wb 32 r).trans hr) (by omega) hw
    exact ⟨q,(qj (body:=lP s) hP).trans q1,(qj (body:=lR) hR).trans q2,q3⟩
   ·obtain ⟨it,it',rb,b,t1,t',k1,k2,k3,k4⟩:=y5c hs ha h
    have ht1:=k3.trans h
    have ht1l:=qi k3
    simp only [List.length_cons] at ht1l
    have hP:lP s (s,pS s (c::r),false,out)=(if b then (vw (out++[it]) s (pS s t1) true) else (if t1≠[] then vw (out++[it]) s (pS s (ifh 44 t1)) (!decide (t1.head?=some 44)) else (vw (out++[it]) s (pS s t1) false))):=by
     show jd s s (pS s (c::r)) false out=_
     unfold jd
     rw [vu h,jq hs false h 44 44 rfl]
     simp only [Option.bind_some]
     rw [show ifh 44 (c::r)=c::r from if_neg (by simpa using hc),show decide ((c::r).head?=some 44)=false from decide_eq_false (by simpa using hc),k1]
     simp only [Option.bind_some]
     rw [if_pos (by omega:out.length+1≤1000000000),vu ht1]
     cases b
     ·rw [jq hs false ht1 44 44 rfl]
      by_cases h0:t1=[] <;> simp [h0]
     ·simp
    have hR:lR (c::r,out)=if rb=false then some (.inr ([],9)) else (if t'≠[] then (if t'.head?=some 44 then jr (out++[it']) t' else some (.inr ([],9))) else jr (out++[it']) t'):=by
     show jj (c::r) out=_
     unfold jj Zt
     simp only [List.getElem?_cons_zero,Option.bind_some,u8c c 44 44 rfl,decide_eq_false hc]
     rw [k2]
     simp only [Option.bind_some]
     rw [if_pos (by omega:out.length+1≤1000000000)]
     cases rb
     ·simp
     ·cases t' with
      | nil=>simp
      | cons x y =>
       simp only [List.getElem?_cons_zero,Option.bind_some,u8n x 44 44 rfl]
       by_cases hx:x=44 <;> simp [hx]
    have skp:∀ (o:List zj) (u:Bs) (bb:Bool),u <:+ s→vw o s (pS s u) bb=some (.inl (s,pS s (trL 32 u),bb,o)):=by
     intro o u bb hu
     unfold vw
     rw [xb hs bb hu]; rfl
    rcases k4 with ⟨a1,a2,a3,a4,a5,a6⟩ | ⟨a1,a2⟩
    ·subst a1 a2 a3 a4
     simp only [List.length_cons] at a5
     rw [if_neg (by simp)] at hP hR
     have hw':∀ x,x∈out++[it']→wOK x:=by
      intro x hx
      rcases List.mem_append.1 hx with hx | hx
      ·exact hw x hx
      ·obtain rfl:x=it':=by simpa using hx
       exact a6
     cases t' with
     | nil =>
      simp only [ne_eq,not_true_eq_false,if_false] at hP hR
      rw [skp _ _ _ ht1] at hP
      unfold jr at hR
      rw [un [] (by simp)] at hR
      simp only [Option.bind_some] at hR
      obtain ⟨q,q1,q2,q3⟩:=ih 0 (by omega) [] (out++[it']) (by simp) ht1 (by simp; omega) hw'
      exact ⟨q,(qj (body:=lP s) hP).trans q1,(qj (body:=lR) hR).trans q2,q3⟩
     | cons x y =>
      simp only [List.length_cons] at a5
      have hy:y <:+ s:=kt ht1
      rw [if_pos (by simp)] at hP hR
      by_cases hx:x=44
      ·subst hx
       rw [if_pos (by simp)] at hR
       rw [show ifh 44 (44::y)=y from rfl,show (!decide ((44::y:Bs).head?=some 44))=false from by simp,skp _ _ _ hy] at hP
       unfold jr at hR
       rw [un _ (by simp; omega)] at hR
       simp only [Option.bind_some] at hR
       rw [show trL 32 (44::y)=44::y from z35 32 _ (by simp)] at hR
       have hR2:lR (44::y,out++[it'])=some (.inl (trL 32 y,out++[it'])):=by
        show jj (44::y) (out++[it'])=_
        unfold jj jr
        simp only [List.getElem?_cons_zero,Option.bind_some,Ww]
        rw [un y (by omega)]
        simp
       have hyl:=qi (wb 32 y)
       obtain ⟨q,q1,q2,q3⟩:=ih (trL 32 y).length (by omega) (trL 32 y) (out++[it']) (Nat.le_refl _) ((wb 32 y).trans hy) (by simp; omega) hw'
       exact ⟨q,(qj (body:=lP s) hP).trans q1,(qj (body:=lR) hR).trans ((qj (body:=lR) hR2).trans q2),q3⟩
      ·rw [if_neg (by simpa using hx)] at hR
       rw [show ifh 44 (x::y)=x::y from if_neg (by simpa using hx),show (!decide ((x::y:Bs).head?=some 44))=true from by simp [hx],skp _ _ _ ht1] at hP
       exact ⟨_,(qj (body:=lP s) hP).trans (z22 _ _ _),qa (body:=lR) hR,nine⟩
    ·subst a1
     rw [if_pos rfl] at hR
     rcases a2 with a2 | ⟨d,y,a2,a3⟩
     ·subst a2
      rw [if_pos rfl,skp _ _ _ ht1] at hP
      exact ⟨_,(qj (body:=lP s) hP).trans (z22 _ _ _),qa (body:=lR) hR,nine⟩
     ·cases b with
      | true =>
       rw [if_pos rfl,skp _ _ _ ht1] at hP
       exact ⟨_,(qj (body:=lP s) hP).trans (z22 _ _ _),qa (body:=lR) hR,nine⟩
      | false =>
       subst a2
       have hd:¬ d=44:=fun e=>by subst e; exact absurd a3 (by decide)
       rw [if_neg (by simp),if_pos (by simp),show ifh 44 (d::y)=d::y from if_neg (by simpa using hd),show (!decide ((d::y:Bs).head?=some 44))=true from by simp [hd],skp _ _ _ ht1] at hP
       exact ⟨_,(qj (body:=lP s) hP).trans (z22 _ _ _),qa (body:=lR) hR,nine⟩
theorem y2w (s:Bs) (hs:s.length≤1000000):∃ r,z0r s=some r∧z0x s=some r∧r.1.length≤50∧∀ x,x∈r.1→wOK x:=by
 unfold z0r z0x
 rw [y5v,y5g s (by omega)]
 simp only [Option.bind_some]
 cases hf:fldB s
 ·exact ⟨_,rfl,rfl,by simp,fun x hx=>by cases hx⟩
 ·have ha:ascB s=true:=by
   unfold fldB at hf
   simp only [Bool.and_eq_true] at hf
   exact y2n hf.2.1
  have e0:(0:Int)=pS s s:=by simp [pS]
  simp only [Bool.not_true,Bool.false_eq_true,if_false]
  rw [e0,xb hs false List.suffix_rfl,un s hs]
  simp only [Option.bind_some]
  have hl:=qi (wb 32 s)
  exact y3h hs ha _ (trL 32 s) [] (Nat.le_refl _) (wb 32 s) (by simp; omega) (fun x hx=>by cases hx)
def aOK (s:Bs):Prop:=ascB s=true∧s.length≤1000000
theorem z23 {s:Bs} (h:aOK s):uc s=some (lo s):=by
 unfold uc
 rw [if_pos ⟨by have:=h.2; omega,h.1⟩]
theorem z8l (d:Bs):(lo d).length=d.length:=by simp [lo,Lib.toLowerA]
theorem y3f (x:Bs):decide (lo x=[42])=decide (x=[42]):=by
 refine decide_eq_decide.2 ⟨fun h => ?_,fun h=>by rw [h]; decide⟩
 match x,h with
 | [c],h =>
  have h1:Lib.lowerB c=42:=by simpa [lo,Lib.toLowerA] using h
  have h2:=kh (fun c => !decide (Lib.lowerB c=42) || decide (c=42)) (by decide +kernel) c
  simp only [h1,decide_true,Bool.not_true,Bool.false_or,decide_eq_true_eq] at h2
  rw [h2]
 | [],h=>exact absurd h (by decide)
 | a::b::r,h=>simp [lo,Lib.toLowerA] at h
theorem z9s (s:Bs) (c:UInt8) (h:s.length≤1000000):vy s [c]=some (Lib.cut s [c]):=by
 unfold vy
 rw [if_pos (by omega)]
theorem y3c (w o:Bs) (hw:aOK w) (ho:aOK o):∃ n,xw w o=some n∧ko (lo w) (lo o) true=some n∧0≤n∧n≤3:=by
 have hc:=(z3t (lo o) 47).1
 have hl:=z8l o
 have h2:=ho.2
 unfold xw ko Zs
 have hcut:=z9s (lo o) 47 (by omega)
 simp only [z23 hw,z23 ho,hcut,Option.bind_some]
 clear hcut
 generalize Lib.cut (lo o) [47]=r at *
 have hg:r.1.length≤999999998:=by omega
 by_cases h1:lo w=lo o
 ·exact ⟨3,by simp [h1],by simp [h1],by decide,by decide⟩
 ·by_cases h2:lo w=r.1++[47,42]
  ·refine ⟨2,?_,?_,by decide,by decide⟩
   ·rw [if_neg (by simpa using h1),if_pos (by simp; omega),if_pos (by simpa using h2)]
   ·rw [if_neg (by simpa using h1),if_pos trivial,if_pos (by simp; omega),if_pos (by simpa using h2)]
  ·by_cases h3:lo w=[42,47,42]
   ·refine ⟨1,?_,?_,by decide,by decide⟩
    ·rw [if_neg (by simpa using h1),if_pos (by simp; omega),if_neg (by simpa using h2),if_pos (by simpa using h3)]
    ·rw [if_neg (by simpa using h1),if_pos trivial,if_pos (by simp; omega),if_neg (by simpa using h2),if_pos (by simp [h3])]
   ·refine ⟨0,?_,?_,by decide,by decide⟩
    ·rw [if_neg (by simpa using h1),if_pos (by simp; omega),if_neg (by simpa using h2),if_neg (by simpa using h3)]
    ·rw [if_neg (by simpa using h1),if_pos trivial,if_pos (by simp; omega),if_neg (by simpa using h2),if_neg (by simp [h3])]
def phW (n:Int):Int:=if n=2 then 3 else n
theorem y0f (w o:Bs) (hw:aOK w) (ho:aOK o):∃ n,xu w o=some n∧ko (lo w) (lo o) false=some (phW n)∧0≤n∧n≤2:=by
 have hl:=z8l o
 have h2:=ho.2
 have h3:=hw.2
 have he:z0m w o=some (decide (lo w=lo o)):=by
  unfold z0m
  rw [if_pos ⟨by omega,hw.1,ho.1⟩,z9o]
 unfold xu ko Zs
 have hcut:=z9s (lo o) 47 (by omega)
 have hs:=y3f w
 simp only [he,hcut,Option.bind_some,hs]
 by_cases h1:lo w=lo o
 ·exact ⟨2,by simp [h1],by simp [h1,phW],by decide,by decide⟩
 ·have e1:decide (lo w=lo o)=false:=decide_eq_false h1
  simp only [e1,Bool.false_eq_true,if_false,Bool.false_and,Bool.not_false,Bool.true_and,Bool.false_or]
  cases h4:decide (w=[42])
  ·exact ⟨0,rfl,rfl,by decide,by decide⟩
  ·exact ⟨1,rfl,rfl,by decide,by decide⟩
def stP (rk:zj→Int) (q:Int×Int) (x:zj):Int×Int:=if q.1 < rk x then (rk x,x.Quality) else q
def stR (rk:zj→Int) (q:Int×Int) (x:zj):Int×Int:=if q.2 < rk x then (x.Quality,rk x) else q
theorem inP (p:Bs→Bs→Option Int) (o:Bs) (rk:zj→Int) (F:Int×Int→Option ((Int×Int) ⊕ (Int×Int))):∀ (l:List zj) (k:Nat) (q:Int×Int),(∀ x,x∈l→p x.Words o=some (rk x))→forL (fun (k:Nat) (x:zj) (s:Int×Int)=>xl p o k x s.1 s.2) F k l q=F (l.foldl (stP rk) q)
 | [],k,q,h=>rfl
 | x::l,k,q,h=>by
  have h1:=h x (by simp)
  have e:xl p o k x q.1 q.2=some (.inl (stP rk q x)):=by
   unfold xl Ys stP
   rw [h1]
   simp only [Option.bind_some]
   by_cases hq:q.1 < rk x <;> simp [hq]
  show (xl p o k x q.1 q.2).bind _=_
  rw [e]
  exact inP p o rk F l (k+1) (stP rk q x) fun y hy=>h y (List.mem_cons_of_mem _ hy)
theorem inR (p:Bs→Bs→Option Int) (o:Bs) (ho:aOK o) (rk:zj→Int) (F:Int×Int→Option ((Int×Int) ⊕ (Int×Int))):∀ (l:List zj) (k:Nat) (q:Int×Int),(∀ x,x∈l→wOK x∧p (lo x.Words) (lo o)=some (rk x))→forL (fun (k:Nat) (x:zj) (s:Int×Int)=>Zp p o k x s.1 s.2) F k l q=F (l.foldl (stR rk) q)
 | [],k,q,h=>rfl
 | x::l,k,q,h=>by
  have h1:=h x (by simp)
  have e:Zp p o k x q.1 q.2=some (.inl (stR rk q x)):=by
   unfold Zp Qx stR
   rw [z23 h1.1,z23 ho]
   simp only [Option.bind_some]
   rw [h1.2]
   simp only [Option.bind_some]
   by_cases hq:q.2 < rk x <;> simp [hq]
  show (Zp p o k x q.1 q.2).bind _=_
  rw [e]
  exact inR p o ho rk F l (k+1) (stR rk q x) fun y hy=>h y (List.mem_cons_of_mem _ hy)
theorem z55 (rk rk':zj→Int) (ph:Int→Int) (m:Int) (hph:∀ a b,0≤a∧a≤m→0≤b∧b≤m→(ph a < ph b↔a < b)):∀ (l:List zj) (a q:Int),0≤a∧a≤m→(∀ x,x∈l→rk' x=ph (rk x)∧0≤rk x∧rk x≤m)→l.foldl (stR rk') (q,ph a)=((l.foldl (stP rk) (a,q)).2,ph (l.foldl (stP rk) (a,q)).1)
 | [],a,q,ha,h=>rfl
 | x::l,a,q,ha,h=>by
  have h1:=h x (by simp)
  rw [List.foldl_cons,List.foldl_cons]
  have h2:=hph a (rk x) ha h1.2
  unfold stP stR
  simp only
  rw [h1.1]
  by_cases hq:a < rk x
  ·rw [if_pos hq,if_pos (h2.2 hq)]
   exact z55 rk rk' ph m hph l (rk x) x.Quality h1.2 fun y hy=>h y (List.mem_cons_of_mem _ hy)
  ·rw [if_neg hq,if_neg fun e=>hq (h2.1 e)]
   exact z55 rk rk' ph m hph l a q ha fun y hy=>h y (List.mem_cons_of_mem _ hy)
theorem z4t (l:List zj) (p p':Bs→Bs→Option Int):∀ (os:List Bs) (k:Nat) (b m:Int),(∀ o,o∈os→∃ Q:Int,∀ (k:Nat) (b m:Int),xm l p k o b m=some (.inl (if m < Q then ((k:Int),Q) else (b,m)))∧ji l p' k o m b=some (.inl (if m < Q then (Q,(k:Int)) else (m,b)))) →
  ∃ c,forL (fun (k:Nat) (x:Bs) (s:Int×Int)=>xm l p k x s.1 s.2) (fun (s:Int×Int)=>Yu s.1 s.2) k os (b,m)=some c∧forL (fun (k:Nat) (x:Bs) (s:Int×Int)=>ji l p' k x s.1 s.2) (fun (s:Int×Int)=>Zq s.1 s.2) k os (m,b)=some c
 | [],k,b,m,h=>by
  show ∃ c,Yu b m=some c∧Zq m b=some c
  unfold Yu Zq
  by_cases hb:b < 0
  ·exact ⟨(0,8),by simp [hb],by simp [hb]⟩
  ·exact ⟨(b,0),by simp [hb],by simp [hb]⟩
 | o::os,k,b,m,h=>by
  obtain ⟨Q,hQ⟩:=h o (by simp)
  obtain ⟨e1,e2⟩:=hQ k b m
  show ∃ c,(xm l p k o b m).bind _=some c∧(ji l p' k o m b).bind _=some c
  rw [e1,e2]
  by_cases hm:m < Q
  ·rw [if_pos hm,if_pos hm]
   exact z4t l p p' os (k+1) k Q fun y hy=>h y (List.mem_cons_of_mem _ hy)
  ·rw [if_neg hm,if_neg hm]
   exact z4t l p p' os (k+1) b m fun y hy=>h y (List.mem_cons_of_mem _ hy)
theorem z8d (p':Bs→Bs→Option Int):∀ (os:List Bs) (k:Nat),forL (fun (k:Nat) (x:Bs) (s:Int×Int)=>ji [] p' k x s.1 s.2) (fun (s:Int×Int)=>Zq s.1 s.2) k os (1000,0)=some (0,0)
 | [],k=>rfl
 | o::os,k=>by
  show (ji [] p' k o 1000 0).bind _=_
  rw [show ji [] p' k o 1000 0=some (.inl (1000,0)) from rfl]
  exact z8d p' os (k+1)
theorem y58 (l:List zj) (os:List Bs) (p p':Bs→Bs→Option Int) (ph:Int→Int) (m:Int) (hm:0≤m) (h0:ph 0=0) (hph:∀ a b,0≤a∧a≤m→0≤b∧b≤m→(ph a < ph b↔a < b)) (hl:l.length≤1000) (hw:∀ x,x∈l→wOK x) (hol:os.length≤1000) (ho:∀ o,o∈os→aOK o)
  (hp:∀ w o,aOK w→aOK o→∃ n,p w o=some n∧p' (lo w) (lo o)=some (ph n)∧0≤n∧n≤m):∃ c,xy l os p=some c∧z0v l os p'=some c:=by
 unfold xy z0v
 have hol':os.length≤1000000000:=by omega
 rw [if_pos hol',if_pos hol']
 cases l with
 | nil =>
  cases os with
  | nil=>exact ⟨(0,8),rfl,rfl⟩
  | cons o os =>
   refine ⟨(0,0),by simp,?_⟩
   show (ji [] p' 0 o 0 (-1)).bind _=_
   rw [show ji [] p' 0 o 0 (-1)=some (.inl (1000,0)) from rfl]
   exact z8d p' os 1
 | cons x l =>
  rw [if_neg (by simp; omega)]
  refine z4t (x::l) p p' os 0 (-1) 0 fun o hoo => ?_
  have hoo':=ho o hoo
  have hrk:∀ y,y∈x::l→∃ n,p y.Words o=some n∧p' (lo y.Words) (lo o)=some (ph n)∧0≤n∧n≤m:=fun y hy=>hp y.Words o (hw y hy) hoo'
  let rk:zj→Int:=fun y=>(p y.Words o).getD 0
  have r1:∀ y,y∈x::l→p y.Words o=some (rk y):=fun y hy=>by
   obtain ⟨n,n1,_⟩:=hrk y hy
   show _=some ((p y.Words o).getD 0)
   rw [n1]; rfl
  have r2:∀ y,y∈x::l→wOK y∧p' (lo y.Words) (lo o)=some (ph (rk y)):=fun y hy=>by
   obtain ⟨n,n1,n2,_⟩:=hrk y hy
   refine ⟨hw y hy,?_⟩
   show _=some (ph ((p y.Words o).getD 0))
   rw [n1]; exact n2
  have r3:∀ y,y∈x::l→ph (rk y)=ph (rk y)∧0≤rk y∧rk y≤m:=fun y hy=>by
   obtain ⟨n,n1,n2,n3⟩:=hrk y hy
   refine ⟨rfl,?_⟩
   show 0≤(p y.Words o).getD 0∧(p y.Words o).getD 0≤m
   rw [n1]; exact n3
  have hb:=z55 rk (fun y=>ph (rk y)) ph m hph (x::l) 0 0 ⟨by omega,hm⟩ r3
  rw [h0] at hb
  refine ⟨((x::l).foldl (stP rk) (0,0)).2,fun k b mm => ?_⟩
  unfold xm ji
  have hl':(x::l).length≤1000000000:=by omega
  rw [if_pos hl',if_pos hl',inP p o rk _ (x::l) 0 (0,0) r1,inR p' o hoo' (fun y=>ph (rk y)) _ (x::l) 0 (0,0) r2,hb]
  simp only
  generalize (x::l).foldl (stP rk) (0,0)=q
  unfold z2f Yt z3i Qy Qz
  rw [if_neg (show ¬ decide (((x::l).length:Int)=0)=true from by simp; omega)]
  by_cases hq:mm < q.2 <;> simp [hq]
def ofB (sl:Bool) (x:Bs):Bool:=wrdB x && ((Lib.contains x [47] == sl) && !Lib.contains x [42])
theorem z9x (s p:Bs) (h:s.length≤1000000):ud s p=some (Lib.contains s p):=by
 unfold ud
 rw [if_pos (by omega)]
theorem offP (sl:Bool) (k:Nat) (x:Bs) (h:aOK x):Yk sl k x=if ofB sl x=true then some (.inl ()) else some (.inr ([],9)):=by
 have h2:=h.2
 unfold Yk xf ofB
 simp only [y5e x h.2,z9x x _ h2,Option.bind_some]
 cases wrdB x <;> cases Lib.contains x [47] <;> cases sl <;> cases Lib.contains x [42] <;> rfl
theorem offR (sl:Bool) (k:Nat) (x:Bs) (h:aOK x):Wb sl k x=if ofB sl x=true then some (.inl ()) else some (.inr (0,9)):=by
 have h2:=h.2
 unfold Wb Zr ofB
 simp only [z6k x h.2,z9x x _ h2,Option.bind_some]
 cases wrdB x <;> cases Lib.contains x [47] <;> cases sl <;> cases Lib.contains x [42] <;> rfl
theorem z9y (t:Bs) (os:List Bs) (ht:t.length≤1000000) (hol:os.length≤1000) (ho:∀ o,o∈os→aOK o) (sl:Bool) (p p':Bs→Bs→Option Int) (hp':p'=fun a0 a1=>ko a0 a1 sl) (ph:Int→Int) (m:Int) (hm:0≤m) (h0:ph 0=0) (hph:∀ a b,0≤a∧a≤m→0≤b∧b≤m→(ph a < ph b↔a < b))
  (hp:∀ w o,aOK w→aOK o→∃ n,p w o=some n∧p' (lo w) (lo o)=some (ph n)∧0≤n∧n≤m) :
  ∃ r,((Qb t os sl).bind fun (r3:((List zj)×Int))=>if decide (r3.2≠0) then (some (0,r3.2)) else ((xy r3.1 os p).bind fun (r6:(Int×Int))=>some (r6.1,r6.2)))=some r∧ui t os sl=some r:=by
 obtain ⟨r,r1,r2,r3,r4⟩:=y2w t ht
 unfold Qb ui
 rw [r1,r2]
 simp only [Option.bind_some]
 by_cases he:r.2=0
 ·have e1:decide (r.2≠0)=false:=by simp [he]
  simp only [e1,Bool.false_eq_true,if_false]
  by_cases h50:(50:Int) < (os.length:Int)
  ·simp only [h50,decide_true,if_true]
   exact ⟨(0,2),rfl,rfl⟩
  ·have hol':os.length≤1000000000:=by omega
   simp only [h50,decide_false,Bool.false_eq_true,if_false,hol',if_true]
   obtain ⟨c,c1,c2⟩:=y58 r.1 os p p' ph m hm h0 hph (by omega) r4 hol ho hp
   have eP:=Zv (body:=fun (k:Nat) (x:Bs) (s:Unit)=>Yk sl k x) (fin:=fun (s:Unit)=>z2a r) (p:=fun _ x=>ofB sl x) (e:=(r.1,0)) (r0:=([],9)) rfl os 0 (fun j x _ hx=>offP sl j x (ho x (List.mem_of_getElem? hx)))
   have eR:=Zv (body:=fun (k:Nat) (x:Bs) (s:Unit)=>Wb sl k x) (fin:=fun (s:Unit)=>Wc os sl r) (p:=fun _ x=>ofB sl x) (e:=c) (r0:=(0,9)) (by
    show Wc os sl r=some c
    unfold Wc
    rw [← hp',c2]; rfl) os 0 (fun j x _ hx=>offR sl j x (ho x (List.mem_of_getElem? hx)))
   rw [eP,eR]
   simp only [Option.bind_some]
   cases allI (fun _ x=>ofB sl x) 0 os
   ·exact ⟨(0,9),rfl,rfl⟩
   ·refine ⟨c,?_,rfl⟩
    simp only [if_true]
    rw [if_neg (by simp),c1]; rfl
 ·have e1:decide (r.2≠0)=true:=by simp [he]
  simp only [e1,if_true,Option.bind_some]
  exact ⟨(0,r.2),rfl,rfl⟩
theorem y3b (t:Bs) (os:List Bs) (ht:t.length≤1000000) (hol:os.length≤1000) (ho:∀ o,o∈os→aOK o):∃ r,z2t t os=some r∧ui t os true=some r:=
 z9y t os ht hol ho true (fun a0 a1=>xw a0 a1) _ rfl (fun n=>n) 3 (by decide) rfl (fun a b _ _=>Iff.rfl) y3c
theorem y2v (a b:Int) (ha:0≤a∧a≤2) (hb:0≤b∧b≤2):phW a < phW b↔a < b:=by
 unfold phW
 split <;> split <;> omega
theorem y0e (t:Bs) (os:List Bs) (ht:t.length≤1000000) (hol:os.length≤1000) (ho:∀ o,o∈os→aOK o):∃ r,z2r t os=some r∧ui t os false=some r:=
 z9y t os ht hol ho false (fun a0 a1=>xu a0 a1) _ rfl phW 2 (by decide) rfl y2v y0f
theorem y3i {k:Int} {s:ya} (h:SB k s) (hk:k≤1000):Ok (z00 s) fun r=>r.1.length≤100000∧SB (k+40) r.2:=by
 have hJ:∀ (t:Bs) (c:List Int) (a:Int),t.length≤30000→SB (k+10) (ya.mk c a)→Ok (Zu t c a) fun r=>r.1.length≤100000∧SB (k+40) r.2:=by
  intro t c a ht hs
  unfold Zu
  refine yt (y2u hs (by omega) _ ⟨by simp,by simp⟩) fun r hr => ?_
  have hm:=hr.1
  simp only [List.mem_cons,List.not_mem_nil,or_false] at hm
  obtain ⟨m,hm2,hm3⟩:∃ m:Nat,r.1=(m:Int)∧m≤2:=⟨r.1.toNat,by omega,by omega⟩
  rw [hm2,Int.toNat_natCast]
  refine ok_g (by omega) ?_
  refine z17 (fun j (q:Bs×List Int×Int)=>j≤2∧q.1.length≤30000+20 * j∧SB (k+11+3 * (j:Int)) (ya.mk q.2.1 q.2.2)) m 0 _ ⟨by omega,by simpa using ht,hr.2.mono (by omega)⟩ ?_ ?_
  ·rintro j ⟨v,l,x⟩ _ hj ⟨h0,h1,h2⟩
   simp only at h1 h2 ⊢
   unfold z3n
   refine yt (y59 h2 (by omega) _ _ (by omega) (by simp)) fun r2 hr2=>qw ⟨by omega,?_,hr2.2.mono (by omega)⟩
   have:=hr2.1
   simp only [List.length_cons,List.length_nil] at this ⊢
   omega
  ·rintro ⟨v,l,x⟩ ⟨h0,h1,h2⟩
   simp only at h1 h2 ⊢
   unfold z3o
   exact qw ⟨by simp only; omega,h2.mono (by omega)⟩
 unfold z00
 refine yt (z7u h (by omega) 0 4 (by omega)) fun r hr=>yt (z7k hr.2 (by omega) 10 _ ⟨by simp,by simp⟩ (by decide)) fun r4 h4 => ?_
 obtain ⟨m,hm⟩:∃ m:Nat,r.1=(m:Int):=⟨r.1.toNat,by omega⟩
 rw [hm]
 refine yt (y0d h4.2 (by omega) m (by omega) _ h4.1 _ ⟨by simp,by simp⟩ (by decide)) fun r6 h6=>yt (z9k h6.2 (by omega) 8 (by omega)) fun r8 h8=>jy (fun _ => ?_) (fun _=>hJ _ _ _ h6.1 (h8.mono (by omega)))
 exact yt (z7k h8 (by omega) 100 _ ⟨by simp,by simp⟩ (by decide)) fun r11 h11=>hJ _ _ _ (by have:=h11.1; omega) (h11.2.mono (by omega))
def oOK (o:Bs):Bool:=ascB o && decide (o.length≤1000)
theorem z4l {k:Int} {s:ya} (h:SB k s) (hk:k≤100000000) (l:List Bs) (hl:l≠[]∧l.length≤1000) (hB:l.all oOK=true):Ok (jg s l) fun r=>oOK r.1=true∧SB (k+1) r.2:=
 z77 (z4k h hk l hl) fun r hr=>⟨List.all_eq_true.1 hB _ hr.1,hr.2⟩
theorem z78 {k:Int} {s:ya} (h:SB k s) (hk:k≤1000) (ty:Bool):Ok (Qi s ty) fun r=>(r.1.length≤10∧∀ o,o∈r.1→oOK o=true)∧SB (k+20) r.2:=by
 have snoc:∀ (l:List Bs) (x:Bs),(∀ o,o∈l→oOK o=true)→oOK x=true→∀ o,o∈l++[x]→oOK o=true:=by
  intro l x h1 h2 o ho
  rcases List.mem_append.1 ho with ho | ho
  ·exact h1 o ho
  ·obtain rfl:o=x:=by simpa using ho
   exact h2
 unfold Qi
 refine yt (z7u h (by omega) 0 4 (by omega)) fun r hr => ?_
 obtain ⟨m,hm⟩:∃ m:Nat,r.1=(m:Int):=⟨r.1.toNat,by omega⟩
 rw [hm,Int.toNat_natCast]
 refine ok_g (by omega) ?_
 refine z17 (fun j (q:List Int×Int×List Bs)=>j≤4∧SB (k+1+(j:Int)) (ya.mk q.1 q.2.1)∧q.2.2.length≤j∧∀ o,o∈q.2.2→oOK o=true) m 0 _ ⟨by omega,hr.2.mono (by omega),by simp,by simp⟩ ?_ ?_
 ·rintro j ⟨c5,c6,l7⟩ _ hj ⟨h0,h1,h2,h3⟩
  simp only at h1 h2 h3 ⊢
  unfold z3l Wh
  refine jy (fun _ => ?_) (fun _ => ?_)
  ·exact yt (z4l h1 (by omega) _ ⟨by simp,by simp⟩ (by decide)) fun r1 hr1=>ok_g (by omega) (qw ⟨by omega,hr1.2.mono (by omega),by simp; omega,snoc _ _ h3 hr1.1⟩)
  ·exact yt (z4l h1 (by omega) _ ⟨by simp,by simp⟩ (by decide)) fun r1 hr1=>ok_g (by omega) (qw ⟨by omega,hr1.2.mono (by omega),by simp; omega,snoc _ _ h3 hr1.1⟩)
 ·rintro ⟨c5,c6,l7⟩ ⟨h0,h1,h2,h3⟩
  simp only at h1 h2 h3 ⊢
  unfold z3m Wi
  refine yt (z9k h1 (by omega) 12 (by omega)) fun r1 hr1=>jy (fun _ => ?_) (fun _=>qw ⟨⟨by simp only; omega,h3⟩,hr1.mono (by omega)⟩)
  exact yt (z4l hr1 (by omega) _ ⟨by simp,by simp⟩ (by decide)) fun r2 hr2=>ok_g (by omega) (qw ⟨⟨by simp; omega,snoc _ _ h3 hr2.1⟩,hr2.2.mono (by omega)⟩)
theorem z79 {o:Bs} (h:oOK o=true):aOK o:=by
 unfold oOK at h
 simp only [Bool.and_eq_true,decide_eq_true_eq] at h
 exact ⟨h.1,by omega⟩
theorem y26 (L:List Int):z2z L=some true:=by
 refine y25 ?_
 unfold z2z
 refine yt (y3i (k:=0) ⟨by simp,by simp⟩ (by omega)) fun r2 h2=>yt (z78 h2.2 (by omega) true) fun r4 h4=>yt (z78 h4.2 (by omega) false) fun r6 h6 => ?_
 obtain ⟨a,a1,a2⟩:=y3b r2.1 r4.1 (by have:=h2.1; omega) (by have:=h4.1.1; omega) fun o ho=>z79 (h4.1.2 o ho)
 obtain ⟨b,b1,b2⟩:=y0e r2.1 r6.1 (by have:=h2.1; omega) (by have:=h6.1.1; omega) fun o ho=>z79 (h6.1.2 o ho)
 rw [a1,a2,b1,b2]
 simp only [Option.bind_some,decide_true,if_true]
 rw [y1x]
 exact qw rfl
end Go.Proofs.YtfindajhhadihaaGreatDoor
